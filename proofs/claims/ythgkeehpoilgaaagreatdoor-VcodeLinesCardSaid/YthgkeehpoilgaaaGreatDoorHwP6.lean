import Derived.Test.YthgkeehpoilgaaaGreatDoorHwP2
import Derived.Test.YthgkeehpoilgaaaGreatDoorHwP5
section
namespace Go.Proofs.YthgkeehpoilgaaaGreatDoor.Hw
open Go.RowKit Go.Proofs.YthgkeehpoilgaaaGreatDoorW.PrintWords Go.Proofs.YthgkeehpoilgaaaGreatDoorW.PrintLast Go.Proofs.YthgkeehpoilgaaaGreatDoorW.PrintMore
attribute [local go_sem] max2_int min2_int max_two min_two max_three min_three max_four min_four
set_option linter.unusedVariables false
set_option linter.unusedSimpArgs false
mutual
def mandrelref11_Shape.j0 : Nat → Int → ByteArray → Bool → Option (Int × Int)
 | 0, _, _, _ => none
 | k + 1, x0, x8, x9 => if x9 = true then (some (0, 1)) else (if x8.toList = ([109, 111, 118, 101] : List UInt8) then (mandrelref11_Shape.j1 k x0 x8 (x8.toList == ([109, 111, 118, 101] : List UInt8))) else (mandrelref11_Shape.j1 k x0 x8 (x8.toList == ([109, 101, 109, 111, 114, 121, 46, 103, 114, 111, 119] : List UInt8))))
def mandrelref11_Shape.j1 : Nat → Int → ByteArray → Bool → Option (Int × Int)
 | 0, _, _, _ => none
 | k + 1, x0, x8, x13 => if x13 = true then (some (1, 1)) else (if x8.toList = ([115, 101, 108, 101, 99, 116] : List UInt8) then (some (3, 1)) else (if x8.toList = ([103, 108, 111, 98, 97, 108, 46, 115, 101, 116] : List UInt8) then (mandrelref11_Shape.j2 k x0 x8 (x8.toList == ([103, 108, 111, 98, 97, 108, 46, 115, 101, 116] : List UInt8))) else (if x8.toList = ([98, 114, 97, 110, 99, 104] : List UInt8) then (mandrelref11_Shape.j2 k x0 x8 (x8.toList == ([98, 114, 97, 110, 99, 104] : List UInt8))) else (mandrelref11_Shape.j2 k x0 x8 (x8.toList == ([116, 97, 98, 108, 101] : List UInt8))))))
def mandrelref11_Shape.j2 : Nat → Int → ByteArray → Bool → Option (Int × Int)
 | 0, _, _, _ => none
 | k + 1, x0, x8, x18 => if x18 = true then (some (1, 0)) else (if x8.toList = ([106, 117, 109, 112] : List UInt8) then (mandrelref11_Shape.j3 k x0 x8 (x8.toList == ([106, 117, 109, 112] : List UInt8))) else (mandrelref11_Shape.j3 k x0 x8 (x8.toList == ([117, 110, 114, 101, 97, 99, 104, 97, 98, 108, 101] : List UInt8))))
def mandrelref11_Shape.j3 : Nat → Int → ByteArray → Bool → Option (Int × Int)
 | 0, _, _, _ => none
 | k + 1, x0, x8, x22 => if x22 = true then (some (0, 0)) else (if x8.toList = ([114, 101, 116, 117, 114, 110] : List UInt8) then (some ((-1), 0)) else (if x8.toList = ([99, 97, 108, 108] : List UInt8) then (mandrelref11_Shape.j4 k x0 (x8.toList == ([99, 97, 108, 108] : List UInt8))) else (mandrelref11_Shape.j4 k x0 (x8.toList == ([99, 97, 108, 108, 95, 105, 110, 100, 105, 114, 101, 99, 116] : List UInt8)))))
def mandrelref11_Shape.j4 : Nat → Int → Bool → Option (Int × Int)
 | 0, _, _ => none
 | k + 1, x0, x27 => if x27 = true then (some ((-1), 2)) else ((mandrelref04_Sign.f k x0).bind fun bt210 => (if bt210.2.1 = 0 then (some ((bt210.1.length : Int), 0)) else (some ((bt210.1.length : Int), 1))))
end
def mandrelref11_Shape.f (k : Nat) (a0 : Int) : Option (Int × Int) := (mandrelref11_Name.f k a0).bind fun t209 => (if t209.toList = ([99, 111, 110, 115, 116] : List UInt8) then (mandrelref11_Shape.j0 k a0 t209 (t209.toList == ([99, 111, 110, 115, 116] : List UInt8))) else (if t209.toList = ([109, 101, 109, 111, 114, 121, 46, 115, 105, 122, 101] : List UInt8) then (mandrelref11_Shape.j0 k a0 t209 (t209.toList == ([109, 101, 109, 111, 114, 121, 46, 115, 105, 122, 101] : List UInt8))) else (mandrelref11_Shape.j0 k a0 t209 (t209.toList == ([103, 108, 111, 98, 97, 108, 46, 103, 101, 116] : List UInt8)))))
set_option maxHeartbeats 8000000 in
set_option maxRecDepth 100000 in
theorem mandrelref11_Shape.calls (k : Nat) (a0 : Int) (r1 : Int) (r2 : Int) (w : World) (hG : GG [] w) (h : mandrelref11_Shape.f k a0 = some (r1, r2)) :
  Calls Tryz.prog 64 #[.int .u8 a0] w fun e w' => e = .returned (.tuple #[.int .i64 r1, .int .i64 r2]) ∧ Below w.heap.size w w' := by
 have HB := Aside0.mk (Below.refl w.heap.size w)
 have HG := Aside0.mk hG
 clear hG
 have H : ((mandrelref11_Name.f k a0).bind fun t209 => (if t209.toList = ([99, 111, 110, 115, 116] : List UInt8) then (mandrelref11_Shape.j0 k a0 t209 (t209.toList == ([99, 111, 110, 115, 116] : List UInt8))) else (if t209.toList = ([109, 101, 109, 111, 114, 121, 46, 115, 105, 122, 101] : List UInt8) then (mandrelref11_Shape.j0 k a0 t209 (t209.toList == ([109, 101, 109, 111, 114, 121, 46, 115, 105, 122, 101] : List UInt8))) else (mandrelref11_Shape.j0 k a0 t209 (t209.toList == ([103, 108, 111, 98, 97, 108, 46, 103, 101, 116] : List UInt8)))))) = some (r1, r2) := h
 clear h
 replace H := Option.bind_eq_some_iff.mp H
 obtain ⟨t209, A20, H⟩ := H
 replace H : (if t209.toList = ([99, 111, 110, 115, 116] : List UInt8) then (mandrelref11_Shape.j0 k a0 t209 (t209.toList == ([99, 111, 110, 115, 116] : List UInt8))) else (if t209.toList = ([109, 101, 109, 111, 114, 121, 46, 115, 105, 122, 101] : List UInt8) then (mandrelref11_Shape.j0 k a0 t209 (t209.toList == ([109, 101, 109, 111, 114, 121, 46, 115, 105, 122, 101] : List UInt8))) else (mandrelref11_Shape.j0 k a0 t209 (t209.toList == ([103, 108, 111, 98, 97, 108, 46, 103, 101, 116] : List UInt8))))) = some (r1, r2) := H
 have A2 := Aside0.mk A20
 clear A20
 have HC3 := Aside0.mk H
 clear H
 go_enter Tryz.func64, Tryz.ntmps64
 go_upto_if 9 with (first | ((with_reducible refine gate_callee (f := 36) rfl ?_); refine goesL_ (some 8) rfl rfl Tryz.func36 Q0 rfl #[.int .u8 a0] rfl Q9 ?_; (with_reducible refine (mandrelref11_Name.calls k a0 t209 _ ?side1 A2.out).mono ?_); (case side1 => exact GG.nil _); rintro e w4 ⟨rfl, hb⟩; refine ⟨_, rfl, ?_⟩; have n0_ := Aside0.mk (below_step Q1 hb); clear HB; have HB := n0_; clear n0_; (try clear hb); (try clear hb2); (try clear hk); (try clear hi)))
 (try simp only [Act.put, List.setIfInBounds_toArray, List.set_cons_zero, List.set_cons_succ])
 go_cut [9] (fun v9 wc => ∃ (kq : Nat) (x9_2 : Bool), v9 = .bool x9_2 ∧ Aside0 (mandrelref11_Shape.j0 kq a0 t209 x9_2 = some (r1, r2)) ∧ Aside0 (kq ≤ k) ∧ Aside0 (Below w.heap.size w wc))
 case first =>
  have H := HC3.out
  clear HC3
  by_cases c5 : t209.toList = ([99, 111, 110, 115, 116] : List UInt8)
  ·rw [if_pos c5] at H
   have c5b0 : (t209.toList == ([99, 111, 110, 115, 116] : List UInt8)) = true := beq_iff_eq.mpr c5
   have c5b1 : (t209.toList != ([99, 111, 110, 115, 116] : List UInt8)) = false := bne_eq_false_iff_eq.mpr c5
   clear c5
   (first | rw [c5b0] | (simp only [i64_w, i32_w]; rw [c5b0]) | skip)
   have H' := Aside0.mk H
   clear H
   go_wp2
   go_meet
   case rel => exact ⟨_, ((t209.toList == ([99, 111, 110, 115, 116] : List UInt8))), Q3, H', ⟨Q15⟩, ⟨Q1⟩⟩
  rw [if_neg c5] at H
  have c5b0 : (t209.toList == ([99, 111, 110, 115, 116] : List UInt8)) = false := beq_eq_false_iff_ne.mpr c5
  have c5b1 : (t209.toList != ([99, 111, 110, 115, 116] : List UInt8)) = true := bne_iff_ne.mpr c5
  (first | rw [c5b0] | (simp only [i64_w, i32_w]; rw [c5b0]) | skip)
  by_cases c6 : t209.toList = ([109, 101, 109, 111, 114, 121, 46, 115, 105, 122, 101] : List UInt8)
  ·rw [if_pos c6] at H
   have c6b0 : (t209.toList == ([109, 101, 109, 111, 114, 121, 46, 115, 105, 122, 101] : List UInt8)) = true := beq_iff_eq.mpr c6
   have c6b1 : (t209.toList != ([109, 101, 109, 111, 114, 121, 46, 115, 105, 122, 101] : List UInt8)) = false := bne_eq_false_iff_eq.mpr c6
   clear c6
   have H' := Aside0.mk H
   clear H
   go_wp2
   go_meet
   case rel => exact ⟨_, ((t209.toList == ([109, 101, 109, 111, 114, 121, 46, 115, 105, 122, 101] : List UInt8))), Q3, H', ⟨Q15⟩, ⟨Q1⟩⟩
  rw [if_neg c6] at H
  have c6b0 : (t209.toList == ([109, 101, 109, 111, 114, 121, 46, 115, 105, 122, 101] : List UInt8)) = false := beq_eq_false_iff_ne.mpr c6
  have c6b1 : (t209.toList != ([109, 101, 109, 111, 114, 121, 46, 115, 105, 122, 101] : List UInt8)) = true := bne_iff_ne.mpr c6
  have H' := Aside0.mk H
  clear H
  go_wp2
  go_meet
  case rel => exact ⟨_, ((t209.toList == ([103, 108, 111, 98, 97, 108, 46, 103, 101, 116] : List UInt8))), Q3, H', ⟨Q15⟩, ⟨Q1⟩⟩
 case rest =>
  clear HC3
  obtain ⟨kq, x9_2, rfl, HA, HJ2, HB⟩ := hcut
  cases kq with
  | zero => exact absurd HA.out (by simp [mandrelref11_Shape.j0])
  | succ kj2 =>
   have H := HA.out
   clear HA
   simp only [mandrelref11_Shape.j0] at H
   by_cases c7 : x9_2 = true
   ·subst c7
    have H1 : (some (0, 1)) = some (r1, r2) := Q14
    clear H
    have H := H1
    clear H1
    simp only [Option.some.injEq, Prod.mk.injEq] at H
    obtain ⟨rfl, rfl⟩ := H
    go_wp2
    go_ret2
    exact ⟨Q6, Q1⟩
   replace c7 := Bool.eq_false_iff.mpr c7
   subst c7
   have H1 : (if t209.toList = ([109, 111, 118, 101] : List UInt8) then (mandrelref11_Shape.j1 kj2 a0 t209 (t209.toList == ([109, 111, 118, 101] : List UInt8))) else (mandrelref11_Shape.j1 kj2 a0 t209 (t209.toList == ([109, 101, 109, 111, 114, 121, 46, 103, 114, 111, 119] : List UInt8)))) = some (r1, r2) := by rw [if_neg (show ¬ (false = true) by decide)] at H; exact H
   clear H
   have H := H1
   clear H1
   have HC8 := Aside0.mk H
   clear H
   go_upto_if 13 with (fail)
   go_cut [13] (fun v13 wc => ∃ (kq : Nat) (x13_7 : Bool), v13 = .bool x13_7 ∧ Aside0 (mandrelref11_Shape.j1 kq a0 t209 x13_7 = some (r1, r2)) ∧ Aside0 (kq ≤ kj2) ∧ Aside0 (Below w.heap.size w wc))
   case first =>
    have H := HC8.out
    clear HC8
    by_cases c9 : t209.toList = ([109, 111, 118, 101] : List UInt8)
    ·rw [if_pos c9] at H
     have c9b0 : (t209.toList == ([109, 111, 118, 101] : List UInt8)) = true := beq_iff_eq.mpr c9
     have c9b1 : (t209.toList != ([109, 111, 118, 101] : List UInt8)) = false := bne_eq_false_iff_eq.mpr c9
     clear c9
     (first | rw [c9b0] | (simp only [i64_w, i32_w]; rw [c9b0]) | skip)
     have H' := Aside0.mk H
     clear H
     go_wp2
     go_meet
     case rel => exact ⟨_, ((t209.toList == ([109, 111, 118, 101] : List UInt8))), Q3, H', ⟨Q81⟩, ⟨Q1⟩⟩
    rw [if_neg c9] at H
    have c9b0 : (t209.toList == ([109, 111, 118, 101] : List UInt8)) = false := beq_eq_false_iff_ne.mpr c9
    have c9b1 : (t209.toList != ([109, 111, 118, 101] : List UInt8)) = true := bne_iff_ne.mpr c9
    (first | rw [c9b0] | (simp only [i64_w, i32_w]; rw [c9b0]) | skip)
    have H' := Aside0.mk H
    clear H
    go_wp2
    go_meet
    case rel => exact ⟨_, ((t209.toList == ([109, 101, 109, 111, 114, 121, 46, 103, 114, 111, 119] : List UInt8))), Q3, H', ⟨Q81⟩, ⟨Q1⟩⟩
   case rest =>
    clear HC8
    try clear c7
    obtain ⟨kq, x13_7, rfl, HA, HJ7, HB⟩ := hcut
    cases kq with
    | zero => exact absurd HA.out (by simp [mandrelref11_Shape.j1])
    | succ kj7 =>
     have H := HA.out
     clear HA
     simp only [mandrelref11_Shape.j1] at H
     by_cases c10 : x13_7 = true
     ·subst c10
      have H1 : (some (1, 1)) = some (r1, r2) := Q14
      clear H
      have H := H1
      clear H1
      simp only [Option.some.injEq, Prod.mk.injEq] at H
      obtain ⟨rfl, rfl⟩ := H
      go_wp2
      go_ret2
      exact ⟨Q6, Q1⟩
     replace c10 := Bool.eq_false_iff.mpr c10
     subst c10
     have H1 : (if t209.toList = ([115, 101, 108, 101, 99, 116] : List UInt8) then (some (3, 1)) else (if t209.toList = ([103, 108, 111, 98, 97, 108, 46, 115, 101, 116] : List UInt8) then (mandrelref11_Shape.j2 kj7 a0 t209 (t209.toList == ([103, 108, 111, 98, 97, 108, 46, 115, 101, 116] : List UInt8))) else (if t209.toList = ([98, 114, 97, 110, 99, 104] : List UInt8) then (mandrelref11_Shape.j2 kj7 a0 t209 (t209.toList == ([98, 114, 97, 110, 99, 104] : List UInt8))) else (mandrelref11_Shape.j2 kj7 a0 t209 (t209.toList == ([116, 97, 98, 108, 101] : List UInt8)))))) = some (r1, r2) := by rw [if_neg (show ¬ (false = true) by decide)] at H; exact H
     clear H
     have H := H1
     clear H1
     by_cases c11 : t209.toList = ([115, 101, 108, 101, 99, 116] : List UInt8)
     ·rw [if_pos c11] at H
      have c11b0 : (t209.toList == ([115, 101, 108, 101, 99, 116] : List UInt8)) = true := beq_iff_eq.mpr c11
      have c11b1 : (t209.toList != ([115, 101, 108, 101, 99, 116] : List UInt8)) = false := bne_eq_false_iff_eq.mpr c11
      clear c11
      simp only [Option.some.injEq, Prod.mk.injEq] at H
      obtain ⟨rfl, rfl⟩ := H
      go_wp2
      go_ret2
      exact ⟨Q6, Q1⟩
     rw [if_neg c11] at H
     have c11b0 : (t209.toList == ([115, 101, 108, 101, 99, 116] : List UInt8)) = false := beq_eq_false_iff_ne.mpr c11
     have c11b1 : (t209.toList != ([115, 101, 108, 101, 99, 116] : List UInt8)) = true := bne_iff_ne.mpr c11
     have HC12 := Aside0.mk H
     clear H
     go_upto_if 18 with (fail)
     go_cut [18] (fun v18 wc => ∃ (kq : Nat) (x18_11 : Bool), v18 = .bool x18_11 ∧ Aside0 (mandrelref11_Shape.j2 kq a0 t209 x18_11 = some (r1, r2)) ∧ Aside0 (kq ≤ kj7) ∧ Aside0 (Below w.heap.size w wc))
     case first =>
      have H := HC12.out
      clear HC12
      by_cases c13 : t209.toList = ([103, 108, 111, 98, 97, 108, 46, 115, 101, 116] : List UInt8)
      ·rw [if_pos c13] at H
       have c13b0 : (t209.toList == ([103, 108, 111, 98, 97, 108, 46, 115, 101, 116] : List UInt8)) = true := beq_iff_eq.mpr c13
       have c13b1 : (t209.toList != ([103, 108, 111, 98, 97, 108, 46, 115, 101, 116] : List UInt8)) = false := bne_eq_false_iff_eq.mpr c13
       clear c13
       (first | rw [c13b0] | (simp only [i64_w, i32_w]; rw [c13b0]) | skip)
       have H' := Aside0.mk H
       clear H
       go_wp2
       go_meet
       case rel => exact ⟨_, ((t209.toList == ([103, 108, 111, 98, 97, 108, 46, 115, 101, 116] : List UInt8))), Q3, H', ⟨Q92⟩, ⟨Q1⟩⟩
      rw [if_neg c13] at H
      have c13b0 : (t209.toList == ([103, 108, 111, 98, 97, 108, 46, 115, 101, 116] : List UInt8)) = false := beq_eq_false_iff_ne.mpr c13
      have c13b1 : (t209.toList != ([103, 108, 111, 98, 97, 108, 46, 115, 101, 116] : List UInt8)) = true := bne_iff_ne.mpr c13
      (first | rw [c13b0] | (simp only [i64_w, i32_w]; rw [c13b0]) | skip)
      by_cases c14 : t209.toList = ([98, 114, 97, 110, 99, 104] : List UInt8)
      ·rw [if_pos c14] at H
       have c14b0 : (t209.toList == ([98, 114, 97, 110, 99, 104] : List UInt8)) = true := beq_iff_eq.mpr c14
       have c14b1 : (t209.toList != ([98, 114, 97, 110, 99, 104] : List UInt8)) = false := bne_eq_false_iff_eq.mpr c14
       clear c14
       have H' := Aside0.mk H
       clear H
       go_wp2
       go_meet
       case rel => exact ⟨_, ((t209.toList == ([98, 114, 97, 110, 99, 104] : List UInt8))), Q3, H', ⟨Q92⟩, ⟨Q1⟩⟩
      rw [if_neg c14] at H
      have c14b0 : (t209.toList == ([98, 114, 97, 110, 99, 104] : List UInt8)) = false := beq_eq_false_iff_ne.mpr c14
      have c14b1 : (t209.toList != ([98, 114, 97, 110, 99, 104] : List UInt8)) = true := bne_iff_ne.mpr c14
      have H' := Aside0.mk H
      clear H
      go_wp2
      go_meet
      case rel => exact ⟨_, ((t209.toList == ([116, 97, 98, 108, 101] : List UInt8))), Q3, H', ⟨Q92⟩, ⟨Q1⟩⟩
     case rest =>
      clear HC12
      try clear c7
      try clear c10
      try clear c11
      try clear c11b0
      try clear c11b1
      obtain ⟨kq, x18_11, rfl, HA, HJ11, HB⟩ := hcut
      cases kq with
      | zero => exact absurd HA.out (by simp [mandrelref11_Shape.j2])
      | succ kj11 =>
       have H := HA.out
       clear HA
       simp only [mandrelref11_Shape.j2] at H
       by_cases c15 : x18_11 = true
       ·subst c15
        have H1 : (some (1, 0)) = some (r1, r2) := Q14
        clear H
        have H := H1
        clear H1
        simp only [Option.some.injEq, Prod.mk.injEq] at H
        obtain ⟨rfl, rfl⟩ := H
        go_wp2
        go_ret2
        exact ⟨Q6, Q1⟩
       replace c15 := Bool.eq_false_iff.mpr c15
       subst c15
       have H1 : (if t209.toList = ([106, 117, 109, 112] : List UInt8) then (mandrelref11_Shape.j3 kj11 a0 t209 (t209.toList == ([106, 117, 109, 112] : List UInt8))) else (mandrelref11_Shape.j3 kj11 a0 t209 (t209.toList == ([117, 110, 114, 101, 97, 99, 104, 97, 98, 108, 101] : List UInt8)))) = some (r1, r2) := by rw [if_neg (show ¬ (false = true) by decide)] at H; exact H
       clear H
       have H := H1
       clear H1
       have HC16 := Aside0.mk H
       clear H
       go_upto_if 22 with (fail)
       go_cut [22] (fun v22 wc => ∃ (kq : Nat) (x22_15 : Bool), v22 = .bool x22_15 ∧ Aside0 (mandrelref11_Shape.j3 kq a0 t209 x22_15 = some (r1, r2)) ∧ Aside0 (kq ≤ kj11) ∧ Aside0 (Below w.heap.size w wc))
       case first =>
        have H := HC16.out
        clear HC16
        by_cases c17 : t209.toList = ([106, 117, 109, 112] : List UInt8)
        ·rw [if_pos c17] at H
         have c17b0 : (t209.toList == ([106, 117, 109, 112] : List UInt8)) = true := beq_iff_eq.mpr c17
         have c17b1 : (t209.toList != ([106, 117, 109, 112] : List UInt8)) = false := bne_eq_false_iff_eq.mpr c17
         clear c17
         (first | rw [c17b0] | (simp only [i64_w, i32_w]; rw [c17b0]) | skip)
         have H' := Aside0.mk H
         clear H
         go_wp2
         go_meet
         case rel => exact ⟨_, ((t209.toList == ([106, 117, 109, 112] : List UInt8))), Q3, H', ⟨Q150⟩, ⟨Q1⟩⟩
        rw [if_neg c17] at H
        have c17b0 : (t209.toList == ([106, 117, 109, 112] : List UInt8)) = false := beq_eq_false_iff_ne.mpr c17
        have c17b1 : (t209.toList != ([106, 117, 109, 112] : List UInt8)) = true := bne_iff_ne.mpr c17
        (first | rw [c17b0] | (simp only [i64_w, i32_w]; rw [c17b0]) | skip)
        have H' := Aside0.mk H
        clear H
        go_wp2
        go_meet
        case rel => exact ⟨_, ((t209.toList == ([117, 110, 114, 101, 97, 99, 104, 97, 98, 108, 101] : List UInt8))), Q3, H', ⟨Q150⟩, ⟨Q1⟩⟩
       case rest =>
        clear HC16
        try clear c7
        try clear c10
        try clear c11
        try clear c11b0
        try clear c11b1
        try clear c15
        obtain ⟨kq, x22_15, rfl, HA, HJ15, HB⟩ := hcut
        cases kq with
        | zero => exact absurd HA.out (by simp [mandrelref11_Shape.j3])
        | succ kj15 =>
         have H := HA.out
         clear HA
         simp only [mandrelref11_Shape.j3] at H
         by_cases c18 : x22_15 = true
         ·subst c18
          have H1 : (some (0, 0)) = some (r1, r2) := Q14
          clear H
          have H := H1
          clear H1
          simp only [Option.some.injEq, Prod.mk.injEq] at H
          obtain ⟨rfl, rfl⟩ := H
          go_wp2
          go_ret2
          exact ⟨Q6, Q1⟩
         replace c18 := Bool.eq_false_iff.mpr c18
         subst c18
         have H1 : (if t209.toList = ([114, 101, 116, 117, 114, 110] : List UInt8) then (some ((-1), 0)) else (if t209.toList = ([99, 97, 108, 108] : List UInt8) then (mandrelref11_Shape.j4 kj15 a0 (t209.toList == ([99, 97, 108, 108] : List UInt8))) else (mandrelref11_Shape.j4 kj15 a0 (t209.toList == ([99, 97, 108, 108, 95, 105, 110, 100, 105, 114, 101, 99, 116] : List UInt8))))) = some (r1, r2) := by rw [if_neg (show ¬ (false = true) by decide)] at H; exact H
         clear H
         have H := H1
         clear H1
         by_cases c19 : t209.toList = ([114, 101, 116, 117, 114, 110] : List UInt8)
         ·rw [if_pos c19] at H
          have c19b0 : (t209.toList == ([114, 101, 116, 117, 114, 110] : List UInt8)) = true := beq_iff_eq.mpr c19
          have c19b1 : (t209.toList != ([114, 101, 116, 117, 114, 110] : List UInt8)) = false := bne_eq_false_iff_eq.mpr c19
          clear c19
          simp only [Option.some.injEq, Prod.mk.injEq] at H
          obtain ⟨rfl, rfl⟩ := H
          go_wp2
          go_ret2
          exact ⟨Q6, Q1⟩
         rw [if_neg c19] at H
         have c19b0 : (t209.toList == ([114, 101, 116, 117, 114, 110] : List UInt8)) = false := beq_eq_false_iff_ne.mpr c19
         have c19b1 : (t209.toList != ([114, 101, 116, 117, 114, 110] : List UInt8)) = true := bne_iff_ne.mpr c19
         have HC20 := Aside0.mk H
         clear H
         go_upto_if 27 with (fail)
         go_cut [27] (fun v27 wc => ∃ (kq : Nat) (x27_19 : Bool), v27 = .bool x27_19 ∧ Aside0 (mandrelref11_Shape.j4 kq a0 x27_19 = some (r1, r2)) ∧ Aside0 (kq ≤ kj15) ∧ Aside0 (Below w.heap.size w wc))
         case first =>
          have H := HC20.out
          clear HC20
          by_cases c21 : t209.toList = ([99, 97, 108, 108] : List UInt8)
          ·rw [if_pos c21] at H
           have c21b0 : (t209.toList == ([99, 97, 108, 108] : List UInt8)) = true := beq_iff_eq.mpr c21
           have c21b1 : (t209.toList != ([99, 97, 108, 108] : List UInt8)) = false := bne_eq_false_iff_eq.mpr c21
           clear c21
           (first | rw [c21b0] | (simp only [i64_w, i32_w]; rw [c21b0]) | skip)
           have H' := Aside0.mk H
           clear H
           go_wp2
           go_meet
           case rel => exact ⟨_, ((t209.toList == ([99, 97, 108, 108] : List UInt8))), Q3, H', ⟨Q151⟩, ⟨Q1⟩⟩
          rw [if_neg c21] at H
          have c21b0 : (t209.toList == ([99, 97, 108, 108] : List UInt8)) = false := beq_eq_false_iff_ne.mpr c21
          have c21b1 : (t209.toList != ([99, 97, 108, 108] : List UInt8)) = true := bne_iff_ne.mpr c21
          (first | rw [c21b0] | (simp only [i64_w, i32_w]; rw [c21b0]) | skip)
          have H' := Aside0.mk H
          clear H
          go_wp2
          go_meet
          case rel => exact ⟨_, ((t209.toList == ([99, 97, 108, 108, 95, 105, 110, 100, 105, 114, 101, 99, 116] : List UInt8))), Q3, H', ⟨Q151⟩, ⟨Q1⟩⟩
         case rest =>
          clear HC20
          try clear c7
          try clear c10
          try clear c11
          try clear c11b0
          try clear c11b1
          try clear c15
          try clear c18
          try clear c19
          try clear c19b0
          try clear c19b1
          obtain ⟨kq, x27_19, rfl, HA, HJ19, HB⟩ := hcut
          cases kq with
          | zero => exact absurd HA.out (by simp [mandrelref11_Shape.j4])
          | succ kj19 =>
           have H := HA.out
           clear HA
           simp only [mandrelref11_Shape.j4] at H
           by_cases c22 : x27_19 = true
           ·subst c22
            have H1 : (some ((-1), 2)) = some (r1, r2) := Q14
            clear H
            have H := H1
            clear H1
            simp only [Option.some.injEq, Prod.mk.injEq] at H
            obtain ⟨rfl, rfl⟩ := H
            go_wp2
            go_ret2
            exact ⟨Q6, Q1⟩
           replace c22 := Bool.eq_false_iff.mpr c22
           subst c22
           have H1 : ((mandrelref04_Sign.f kj19 a0).bind fun bt210 => (if bt210.2.1 = 0 then (some ((bt210.1.length : Int), 0)) else (some ((bt210.1.length : Int), 1)))) = some (r1, r2) := by rw [if_neg (show ¬ (false = true) by decide)] at H; exact H
           clear H
           have H := H1
           clear H1
           replace H := Option.bind_eq_some_iff.mp H
           obtain ⟨⟨t210, t211, t212⟩, A230, H⟩ := H
           replace H : (if t211 = 0 then (some ((t210.length : Int), 0)) else (some ((t210.length : Int), 1))) = some (r1, r2) := H
           have A23 := Aside0.mk A230
           clear A230
           by_cases c24 : t211 = 0
           ·rw [if_pos c24] at H
            have c24b0 : (t211 == 0) = true := beq_iff_eq.mpr c24
            have c24b1 : (t211 != 0) = false := bne_eq_false_iff_eq.mpr c24
            clear c24
            simp only [Option.some.injEq, Prod.mk.injEq] at H
            obtain ⟨rfl, rfl⟩ := H
            go_wp2_with (first | ((with_reducible refine gate_callee (f := 91) rfl ?_); refine goesL_ (some 32) rfl rfl Tryz.func91 Q0 rfl #[.int .u8 a0] rfl Q9 ?_; (with_reducible refine (mandrelref04_Sign.calls kj19 a0 t210 t211 t212 _ ?side1 A23.out).mono ?_); (case side1 => exact GG.nil _); rintro e w25 ⟨v213, rfl, ho0, hb⟩; refine ⟨_, rfl, ?_⟩; have n0_ := Aside0.mk (Kd.R_lower ho0 (below_size Q1)); have n1_ := Aside0.mk (below_step Q1 hb); clear HB; have HO214 := n0_; have HB := n1_; clear n0_ n1_; (try clear hb); (try clear hb2); (try clear hk); (try clear hi); (try clear ho0); obtain ⟨Ao26, co26, eo26⟩ := Kd.R_slice HO214.out; subst eo26))
            go_ret2
            exact ⟨Q6, Q1⟩
           rw [if_neg c24] at H
           have c24b0 : (t211 == 0) = false := beq_eq_false_iff_ne.mpr c24
           have c24b1 : (t211 != 0) = true := bne_iff_ne.mpr c24
           simp only [Option.some.injEq, Prod.mk.injEq] at H
           obtain ⟨rfl, rfl⟩ := H
           go_wp2_with (first | ((with_reducible refine gate_callee (f := 91) rfl ?_); refine goesL_ (some 32) rfl rfl Tryz.func91 Q0 rfl #[.int .u8 a0] rfl Q9 ?_; (with_reducible refine (mandrelref04_Sign.calls kj19 a0 t210 t211 t212 _ ?side1 A23.out).mono ?_); (case side1 => exact GG.nil _); rintro e w27 ⟨v213, rfl, ho0, hb⟩; refine ⟨_, rfl, ?_⟩; have n0_ := Aside0.mk (Kd.R_lower ho0 (below_size Q1)); have n1_ := Aside0.mk (below_step Q1 hb); clear HB; have HO214 := n0_; have HB := n1_; clear n0_ n1_; (try clear hb); (try clear hb2); (try clear hk); (try clear hi); (try clear ho0); obtain ⟨Ao28, co28, eo28⟩ := Kd.R_slice HO214.out; subst eo28))
           go_ret2
           exact ⟨Q6, Q1⟩
def mandrelref11_Memory.f (k : Nat) (a0 : Int) : Option (Bool) := (mandrelref04_Form.f k a0).bind fun bt215 => (if bt215.2 = true then (some (bt215.1 == 4)) else (some false))
set_option maxHeartbeats 8000000 in
set_option maxRecDepth 100000 in
theorem mandrelref11_Memory.calls (k : Nat) (a0 : Int) (r : Bool) (w : World) (hG : GG [] w) (h : mandrelref11_Memory.f k a0 = some r) :
  Calls Tryz.prog 65 #[.int .u8 a0] w fun e w' => e = .returned (.bool r) ∧ Below w.heap.size w w' := by
 have HB := Aside0.mk (Below.refl w.heap.size w)
 have HG := Aside0.mk hG
 clear hG
 have H : ((mandrelref04_Form.f k a0).bind fun bt215 => (if bt215.2 = true then (some (bt215.1 == 4)) else (some false))) = some r := h
 clear h
 replace H := Option.bind_eq_some_iff.mp H
 obtain ⟨⟨t215, t216⟩, A20, H⟩ := H
 replace H : (if t216 = true then (some (t215 == 4)) else (some false)) = some r := H
 have A2 := Aside0.mk A20
 clear A20
 by_cases c3 : t216 = true
 ·subst c3
  have H1 : (some (t215 == 4)) = some r := Q14
  clear H
  have H := H1
  clear H1
  obtain rfl := Option.some.inj H
  go_enter Tryz.func65, Tryz.ntmps65
  go_wp2_with (first | ((with_reducible refine gate_callee (f := 92) rfl ?_); refine goesL_ (some 7) rfl rfl Tryz.func92 Q0 rfl #[.int .u8 a0] rfl Q9 ?_; (with_reducible refine (mandrelref04_Form.calls k a0 t215 true _ ?side1 A2.out).mono ?_); (case side1 => exact GG.nil _); rintro e w4 ⟨rfl, hb⟩; refine ⟨_, rfl, ?_⟩; have n0_ := Aside0.mk (below_step Q1 hb); clear HB; have HB := n0_; clear n0_; (try clear hb); (try clear hb2); (try clear hk); (try clear hi)))
  go_ret
  exact ⟨Q6, Q1⟩
 replace c3 := Bool.eq_false_iff.mpr c3
 subst c3
 have H1 : (some false) = some r := by rw [if_neg (show ¬ (false = true) by decide)] at H; exact H
 clear H
 have H := H1
 clear H1
 obtain rfl := Option.some.inj H
 go_enter Tryz.func65, Tryz.ntmps65
 go_wp2_with (first | ((with_reducible refine gate_callee (f := 92) rfl ?_); refine goesL_ (some 7) rfl rfl Tryz.func92 Q0 rfl #[.int .u8 a0] rfl Q9 ?_; (with_reducible refine (mandrelref04_Form.calls k a0 t215 false _ ?side1 A2.out).mono ?_); (case side1 => exact GG.nil _); rintro e w5 ⟨rfl, hb⟩; refine ⟨_, rfl, ?_⟩; have n0_ := Aside0.mk (below_step Q1 hb); clear HB; have HB := n0_; clear n0_; (try clear hb); (try clear hb2); (try clear hk); (try clear hi)))
 go_ret
 exact ⟨Q6, Q1⟩
mutual
def mandrelref11_ins.l0 : Nat → ByteArray → Int → Int → Int → Bool → List (S80) → Int → Int → List Int → Int → Int → Option (Bool)
 | 0, _, _, _, _, _, _, _, _, _, _, _ => none
 | k + 1, x5, x6, x218000, x218001, x218002, x218003, x219000, x219001, x219002, x219003, x219004 => if x6 < (x219002.length : Int) then (if 0 ≤ x6 then (if (rd x219002 x6) < 0 then (some false) else (if (rd x219002 x6) ≥ x218001 then (some false) else (mandrelref11_ins.l0 k x5 (wrap64 (x6 + 1)) x218000 x218001 x218002 x218003 x219000 x219001 x219002 x219003 x219004))) else (none)) else ((mandrelref11_Shape.f k x219000).bind fun bt222 => (if bt222.1 ≥ 0 then (if (x219002.length : Int) = bt222.1 then (if x219001 < (-1) then (mandrelref11_ins.j1 k x5 true x218000 x218001 x218002 x218003 x219000 x219001 x219002 x219003 x219004) else (if x219001 ≥ x218001 then (mandrelref11_ins.j1 k x5 true x218000 x218001 x218002 x218003 x219000 x219001 x219002 x219003 x219004) else (if bt222.2 = 2 then (mandrelref11_ins.j1 k x5 false x218000 x218001 x218002 x218003 x219000 x219001 x219002 x219003 x219004) else (mandrelref11_ins.j1 k x5 ((bt222.2 == 1) != (decide (x219001 ≥ 0))) x218000 x218001 x218002 x218003 x219000 x219001 x219002 x219003 x219004)))) else (mandrelref11_ins.j1 k x5 true x218000 x218001 x218002 x218003 x219000 x219001 x219002 x219003 x219004)) else (if x219001 < (-1) then (mandrelref11_ins.j1 k x5 true x218000 x218001 x218002 x218003 x219000 x219001 x219002 x219003 x219004) else (if x219001 ≥ x218001 then (mandrelref11_ins.j1 k x5 true x218000 x218001 x218002 x218003 x219000 x219001 x219002 x219003 x219004) else (if bt222.2 = 2 then (mandrelref11_ins.j1 k x5 false x218000 x218001 x218002 x218003 x219000 x219001 x219002 x219003 x219004) else (mandrelref11_ins.j1 k x5 ((bt222.2 == 1) != (decide (x219001 ≥ 0))) x218000 x218001 x218002 x218003 x219000 x219001 x219002 x219003 x219004))))))
def mandrelref11_ins.j1 : Nat → ByteArray → Bool → Int → Int → Bool → List (S80) → Int → Int → List Int → Int → Int → Option (Bool)
 | 0, _, _, _, _, _, _, _, _, _, _, _ => none
 | k + 1, x5, x76, x218000, x218001, x218002, x218003, x219000, x219001, x219002, x219003, x219004 => if x76 = true then (some false) else (if x5.toList = ([99, 97, 108, 108, 95, 105, 110, 100, 105, 114, 101, 99, 116] : List UInt8) then (if (x219002.length : Int) = 0 then (mandrelref11_ins.j2 k x5 true x218000 x218001 x218002 x218003 x219000 x219001 x219002 x219003 x219004) else (if x219004 = 0 then (mandrelref11_ins.j2 k x5 false x218000 x218001 x218002 x218003 x219000 x219001 x219002 x219003 x219004) else ((mandrelref11_Memory.f k x219000).bind fun t224 => (mandrelref11_ins.j2 k x5 (!t224) x218000 x218001 x218002 x218003 x219000 x219001 x219002 x219003 x219004)))) else (if x219004 = 0 then (mandrelref11_ins.j2 k x5 false x218000 x218001 x218002 x218003 x219000 x219001 x219002 x219003 x219004) else ((mandrelref11_Memory.f k x219000).bind fun t225 => (mandrelref11_ins.j2 k x5 (!t225) x218000 x218001 x218002 x218003 x219000 x219001 x219002 x219003 x219004))))
def mandrelref11_ins.j2 : Nat → ByteArray → Bool → Int → Int → Bool → List (S80) → Int → Int → List Int → Int → Int → Option (Bool)
 | 0, _, _, _, _, _, _, _, _, _, _, _ => none
 | k + 1, x5, x95, x218000, x218001, x218002, x218003, x219000, x219001, x219002, x219003, x219004 => if x95 = true then (some false) else (if x5.toList = ([114, 101, 116, 117, 114, 110] : List UInt8) then (if x218002 = true then (if (x219002.length : Int) = 1 then (some (x219003 == 0)) else (some false)) else (if (x219002.length : Int) = 0 then (some (x219003 == 0)) else (some false))) else (if x5.toList = ([103, 108, 111, 98, 97, 108, 46, 103, 101, 116] : List UInt8) then (some (decide (x219003 ≥ 0))) else (if x5.toList = ([103, 108, 111, 98, 97, 108, 46, 115, 101, 116] : List UInt8) then (some (decide (x219003 ≥ 0))) else (if x5.toList = ([99, 97, 108, 108] : List UInt8) then (some (decide (x219003 ≥ 0))) else (if x5.toList = ([99, 97, 108, 108, 95, 105, 110, 100, 105, 114, 101, 99, 116] : List UInt8) then (some (decide (x219003 ≥ 0))) else (if x5.toList = ([99, 111, 110, 115, 116] : List UInt8) then (some true) else (some (x219003 == 0))))))))
end
def mandrelref11_ins.f (k : Nat) (a0_0 : Int) (a0_1 : Int) (a0_2 : Bool) (l0_3 : List (S80)) (a1_0 : Int) (a1_1 : Int) (l1_2 : List Int) (a1_3 : Int) (a1_4 : Int) : Option (Bool) := (mandrelref11_Name.f k a1_0).bind fun t219 => (if t219.toList = ([] : List UInt8) then (some false) else (mandrelref11_ins.l0 k t219 0 a0_0 a0_1 a0_2 l0_3 a1_0 a1_1 l1_2 a1_3 a1_4))
set_option maxHeartbeats 8000000 in
set_option maxRecDepth 100000 in
theorem mandrelref11_ins.calls (k : Nat) (a0_0 : Int) (a0_1 : Int) (a0_2 : Bool) (A0_3 : Option Addr) (c0_3 : Nat) (l0_3 : List (S80)) (a1_0 : Int) (a1_1 : Int) (A1_2 : Option Addr) (c1_2 : Nat) (l1_2 : List Int) (a1_3 : Int) (a1_4 : Int) (r : Bool) (w : World) (hr0_3 : Kd.C k80 w A0_3 l0_3.length l0_3) (hc0_3 : l0_3.length ≤ c0_3) (hr1_2 : Kd.C (Kd.int .i64) w A1_2 l1_2.length l1_2) (hc1_2 : l1_2.length ≤ c1_2) (hG : GG [] w) (h : mandrelref11_ins.f k a0_0 a0_1 a0_2 l0_3 a1_0 a1_1 l1_2 a1_3 a1_4 = some r) :
  Calls Tryz.prog 34 #[.agg #[.int .i64 a0_0, .int .i64 a0_1, .bool a0_2, .slice A0_3 l0_3.length c0_3], .agg #[.int .u8 a1_0, .int .i64 a1_1, .slice A1_2 l1_2.length c1_2, .int .i64 a1_3, .int .u32 a1_4]] w fun e w' => e = .returned (.bool r) ∧ Below w.heap.size w w' := by
 have hu24 := Tryz.underlying24
 have hu83 := Tryz.underlying83
 have HR0_3 := Aside0.mk hr0_3
 have HC0_3 := Aside0.mk hc0_3
 clear hr0_3 hc0_3
 have HR1_2 := Aside0.mk hr1_2
 have HC1_2 := Aside0.mk hc1_2
 clear hr1_2 hc1_2
 have HB := Aside0.mk (Below.refl w.heap.size w)
 have HG := Aside0.mk hG
 clear hG
 have H : ((mandrelref11_Name.f k a1_0).bind fun t219 => (if t219.toList = ([] : List UInt8) then (some false) else (mandrelref11_ins.l0 k t219 0 a0_0 a0_1 a0_2 l0_3 a1_0 a1_1 l1_2 a1_3 a1_4))) = some r := h
 clear h
 replace H := Option.bind_eq_some_iff.mp H
 obtain ⟨t219, A30, H⟩ := H
 replace H : (if t219.toList = ([] : List UInt8) then (some false) else (mandrelref11_ins.l0 k t219 0 a0_0 a0_1 a0_2 l0_3 a1_0 a1_1 l1_2 a1_3 a1_4)) = some r := H
 have A3 := Aside0.mk A30
 clear A30
 by_cases c4 : t219.toList = ([] : List UInt8)
 ·rw [if_pos c4] at H
  have c4b0 : (t219.toList == ([] : List UInt8)) = true := beq_iff_eq.mpr c4
  have c4b1 : (t219.toList != ([] : List UInt8)) = false := bne_eq_false_iff_eq.mpr c4
  clear c4
  obtain rfl := Option.some.inj H
  go_enter Tryz.func34, Tryz.ntmps34
  go_wp2_with (first | ((with_reducible refine gate_dst (N := 2) rfl ?_); (try (refine gate_guard Q2 ?_; dsimp only)); refine box_event ?hg (N := 2) ?hd (cs := #[.int .i64 a0_0, .int .i64 a0_1, .bool a0_2, .slice A0_3 l0_3.length c0_3]) (t := 24) ?hr ?_; (case hd => rfl); (case hg => rfl); (case hr => first | (go_simp; done) | (go_simp; rfl)); intro gb217 hg w5 hbox hb; have n0_ := Aside0.mk (below_step Q1 hb); have n1_ := Aside0.mk (hbox); have n2_ := Aside0.mk ((Q155 : w.heap.size ≤ gb217)); have n3_ := Aside0.mk ((Q155 : w.heap.size ≤ gb217)); clear HB; have HB := n0_; have BK217 := n1_; have GW217 := n2_; have GE217 := n3_; clear n0_ n1_ n2_ n3_; clear hb hbox hg) | ((with_reducible refine gate_dst (N := 3) rfl ?_); (try (refine gate_guard Q2 ?_; dsimp only)); refine box_event ?hg (N := 3) ?hd (cs := #[.int .u8 a1_0, .int .i64 a1_1, .slice A1_2 l1_2.length c1_2, .int .i64 a1_3, .int .u32 a1_4]) (t := 83) ?hr ?_; (case hd => rfl); (case hg => rfl); (case hr => first | (go_simp; done) | (go_simp; rfl)); intro gb218 hg w6 hbox hb; have n0_ := Aside0.mk (blk_below (g := gb217) (o := .cells #[.int .i64 a0_0, .int .i64 a0_1, .bool a0_2, .slice A0_3 l0_3.length c0_3] 24 (0, 0)) Q18 hb); have n1_ := Aside0.mk (below_step Q34 hb); have n2_ := Aside0.mk (hbox); have n3_ := Aside0.mk ((Q159 : w.heap.size ≤ gb218)); have n4_ := Aside0.mk ((Q159 : w.heap.size ≤ gb218)); have n5_ := Aside0.mk ((Q165 : gb217 ≠ gb218)); have n6_ := Aside0.mk ((Q166 : gb218 ≠ gb217)); clear BK217; clear HB; have BK217 := n0_; have HB := n1_; have BK218 := n2_; have GW218 := n3_; have GE218 := n4_; have NB217_218 := n5_; have NB218_217 := n6_; clear n0_ n1_ n2_ n3_ n4_ n5_ n6_; clear hb hbox hg; have hnb7 := NB218_217.out; have hnc7 := NB217_218.out; have hcz8_0 : w6.cell? ⟨gb218, 0, none⟩ = some (.int .u8 a1_0) := (blk_cell BK218.out 0).trans rfl; have hcz8_1 : w6.cell? ⟨gb218, 1, none⟩ = some (.int .i64 a1_1) := (blk_cell BK218.out 1).trans rfl; have hcz8_2 : w6.cell? ⟨gb218, 2, none⟩ = some (.slice A1_2 l1_2.length c1_2) := (blk_cell BK218.out 2).trans rfl; have hcz8_3 : w6.cell? ⟨gb218, 3, none⟩ = some (.int .i64 a1_3) := (blk_cell BK218.out 3).trans rfl; have hcz8_4 : w6.cell? ⟨gb218, 4, none⟩ = some (.int .u32 a1_4) := (blk_cell BK218.out 4).trans rfl; have hfz8_0 := blk_frozen BK218.out 0; have hfz8_1 := blk_frozen BK218.out 1; have hfz8_2 := blk_frozen BK218.out 2; have hfz8_3 := blk_frozen BK218.out 3; have hfz8_4 := blk_frozen BK218.out 4) | (go_at_call 36; (with_reducible refine (mandrelref11_Name.calls k a1_0 t219 _ ?side1 A3.out).mono ?_); (case side1 => exact GG.nil _); rintro e w9 ⟨rfl, hb⟩; have n0_ := Aside0.mk (blk_below (g := gb217) (o := .cells #[.int .i64 a0_0, .int .i64 a0_1, .bool a0_2, .slice A0_3 l0_3.length c0_3] 24 (0, 0)) Q18 hb); have n1_ := Aside0.mk (blk_below (g := gb218) (o := .cells #[.int .u8 a1_0, .int .i64 a1_1, .slice A1_2 l1_2.length c1_2, .int .i64 a1_3, .int .u32 a1_4] 83 (0, 0)) Q26 hb); have n2_ := Aside0.mk (below_step Q19 hb); clear BK217; clear BK218; clear HB; have BK217 := n0_; have BK218 := n1_; have HB := n2_; clear n0_ n1_ n2_; (try clear hb); (try clear hb2); (try clear hk); (try clear hi)))
  repeat (go_quiet (first | ((with_reducible refine gate_dst (N := 2) rfl ?_); (try (refine gate_guard Q2 ?_; dsimp only)); refine box_event ?hg (N := 2) ?hd (cs := #[.int .i64 a0_0, .int .i64 a0_1, .bool a0_2, .slice A0_3 l0_3.length c0_3]) (t := 24) ?hr ?_; (case hd => rfl); (case hg => rfl); (case hr => first | (go_simp; done) | (go_simp; rfl)); intro gb217 hg w5 hbox hb; have n0_ := Aside0.mk (below_step Q1 hb); have n1_ := Aside0.mk (hbox); have n2_ := Aside0.mk ((Q155 : w.heap.size ≤ gb217)); have n3_ := Aside0.mk ((Q155 : w.heap.size ≤ gb217)); clear HB; have HB := n0_; have BK217 := n1_; have GW217 := n2_; have GE217 := n3_; clear n0_ n1_ n2_ n3_; clear hb hbox hg) | ((with_reducible refine gate_dst (N := 3) rfl ?_); (try (refine gate_guard Q2 ?_; dsimp only)); refine box_event ?hg (N := 3) ?hd (cs := #[.int .u8 a1_0, .int .i64 a1_1, .slice A1_2 l1_2.length c1_2, .int .i64 a1_3, .int .u32 a1_4]) (t := 83) ?hr ?_; (case hd => rfl); (case hg => rfl); (case hr => first | (go_simp; done) | (go_simp; rfl)); intro gb218 hg w6 hbox hb; have n0_ := Aside0.mk (blk_below (g := gb217) (o := .cells #[.int .i64 a0_0, .int .i64 a0_1, .bool a0_2, .slice A0_3 l0_3.length c0_3] 24 (0, 0)) Q18 hb); have n1_ := Aside0.mk (below_step Q34 hb); have n2_ := Aside0.mk (hbox); have n3_ := Aside0.mk ((Q159 : w.heap.size ≤ gb218)); have n4_ := Aside0.mk ((Q159 : w.heap.size ≤ gb218)); have n5_ := Aside0.mk ((Q165 : gb217 ≠ gb218)); have n6_ := Aside0.mk ((Q166 : gb218 ≠ gb217)); clear BK217; clear HB; have BK217 := n0_; have HB := n1_; have BK218 := n2_; have GW218 := n3_; have GE218 := n4_; have NB217_218 := n5_; have NB218_217 := n6_; clear n0_ n1_ n2_ n3_ n4_ n5_ n6_; clear hb hbox hg; have hnb7 := NB218_217.out; have hnc7 := NB217_218.out; have hcz8_0 : w6.cell? ⟨gb218, 0, none⟩ = some (.int .u8 a1_0) := (blk_cell BK218.out 0).trans rfl; have hcz8_1 : w6.cell? ⟨gb218, 1, none⟩ = some (.int .i64 a1_1) := (blk_cell BK218.out 1).trans rfl; have hcz8_2 : w6.cell? ⟨gb218, 2, none⟩ = some (.slice A1_2 l1_2.length c1_2) := (blk_cell BK218.out 2).trans rfl; have hcz8_3 : w6.cell? ⟨gb218, 3, none⟩ = some (.int .i64 a1_3) := (blk_cell BK218.out 3).trans rfl; have hcz8_4 : w6.cell? ⟨gb218, 4, none⟩ = some (.int .u32 a1_4) := (blk_cell BK218.out 4).trans rfl; have hfz8_0 := blk_frozen BK218.out 0; have hfz8_1 := blk_frozen BK218.out 1; have hfz8_2 := blk_frozen BK218.out 2; have hfz8_3 := blk_frozen BK218.out 3; have hfz8_4 := blk_frozen BK218.out 4) | (go_at_call 36; (with_reducible refine (mandrelref11_Name.calls k a1_0 t219 _ ?side1 A3.out).mono ?_); (case side1 => exact GG.nil _); rintro e w9 ⟨rfl, hb⟩; have n0_ := Aside0.mk (blk_below (g := gb217) (o := .cells #[.int .i64 a0_0, .int .i64 a0_1, .bool a0_2, .slice A0_3 l0_3.length c0_3] 24 (0, 0)) Q18 hb); have n1_ := Aside0.mk (blk_below (g := gb218) (o := .cells #[.int .u8 a1_0, .int .i64 a1_1, .slice A1_2 l1_2.length c1_2, .int .i64 a1_3, .int .u32 a1_4] 83 (0, 0)) Q26 hb); have n2_ := Aside0.mk (below_step Q19 hb); clear BK217; clear BK218; clear HB; have BK217 := n0_; have BK218 := n1_; have HB := n2_; clear n0_ n1_ n2_; (try clear hb); (try clear hb2); (try clear hk); (try clear hi))); try go_wp2_with (first | ((with_reducible refine gate_dst (N := 2) rfl ?_); (try (refine gate_guard Q2 ?_; dsimp only)); refine box_event ?hg (N := 2) ?hd (cs := #[.int .i64 a0_0, .int .i64 a0_1, .bool a0_2, .slice A0_3 l0_3.length c0_3]) (t := 24) ?hr ?_; (case hd => rfl); (case hg => rfl); (case hr => first | (go_simp; done) | (go_simp; rfl)); intro gb217 hg w5 hbox hb; have n0_ := Aside0.mk (below_step Q1 hb); have n1_ := Aside0.mk (hbox); have n2_ := Aside0.mk ((Q155 : w.heap.size ≤ gb217)); have n3_ := Aside0.mk ((Q155 : w.heap.size ≤ gb217)); clear HB; have HB := n0_; have BK217 := n1_; have GW217 := n2_; have GE217 := n3_; clear n0_ n1_ n2_ n3_; clear hb hbox hg) | ((with_reducible refine gate_dst (N := 3) rfl ?_); (try (refine gate_guard Q2 ?_; dsimp only)); refine box_event ?hg (N := 3) ?hd (cs := #[.int .u8 a1_0, .int .i64 a1_1, .slice A1_2 l1_2.length c1_2, .int .i64 a1_3, .int .u32 a1_4]) (t := 83) ?hr ?_; (case hd => rfl); (case hg => rfl); (case hr => first | (go_simp; done) | (go_simp; rfl)); intro gb218 hg w6 hbox hb; have n0_ := Aside0.mk (blk_below (g := gb217) (o := .cells #[.int .i64 a0_0, .int .i64 a0_1, .bool a0_2, .slice A0_3 l0_3.length c0_3] 24 (0, 0)) Q18 hb); have n1_ := Aside0.mk (below_step Q34 hb); have n2_ := Aside0.mk (hbox); have n3_ := Aside0.mk ((Q159 : w.heap.size ≤ gb218)); have n4_ := Aside0.mk ((Q159 : w.heap.size ≤ gb218)); have n5_ := Aside0.mk ((Q165 : gb217 ≠ gb218)); have n6_ := Aside0.mk ((Q166 : gb218 ≠ gb217)); clear BK217; clear HB; have BK217 := n0_; have HB := n1_; have BK218 := n2_; have GW218 := n3_; have GE218 := n4_; have NB217_218 := n5_; have NB218_217 := n6_; clear n0_ n1_ n2_ n3_ n4_ n5_ n6_; clear hb hbox hg; have hnb7 := NB218_217.out; have hnc7 := NB217_218.out; have hcz8_0 : w6.cell? ⟨gb218, 0, none⟩ = some (.int .u8 a1_0) := (blk_cell BK218.out 0).trans rfl; have hcz8_1 : w6.cell? ⟨gb218, 1, none⟩ = some (.int .i64 a1_1) := (blk_cell BK218.out 1).trans rfl; have hcz8_2 : w6.cell? ⟨gb218, 2, none⟩ = some (.slice A1_2 l1_2.length c1_2) := (blk_cell BK218.out 2).trans rfl; have hcz8_3 : w6.cell? ⟨gb218, 3, none⟩ = some (.int .i64 a1_3) := (blk_cell BK218.out 3).trans rfl; have hcz8_4 : w6.cell? ⟨gb218, 4, none⟩ = some (.int .u32 a1_4) := (blk_cell BK218.out 4).trans rfl; have hfz8_0 := blk_frozen BK218.out 0; have hfz8_1 := blk_frozen BK218.out 1; have hfz8_2 := blk_frozen BK218.out 2; have hfz8_3 := blk_frozen BK218.out 3; have hfz8_4 := blk_frozen BK218.out 4) | (go_at_call 36; (with_reducible refine (mandrelref11_Name.calls k a1_0 t219 _ ?side1 A3.out).mono ?_); (case side1 => exact GG.nil _); rintro e w9 ⟨rfl, hb⟩; have n0_ := Aside0.mk (blk_below (g := gb217) (o := .cells #[.int .i64 a0_0, .int .i64 a0_1, .bool a0_2, .slice A0_3 l0_3.length c0_3] 24 (0, 0)) Q18 hb); have n1_ := Aside0.mk (blk_below (g := gb218) (o := .cells #[.int .u8 a1_0, .int .i64 a1_1, .slice A1_2 l1_2.length c1_2, .int .i64 a1_3, .int .u32 a1_4] 83 (0, 0)) Q26 hb); have n2_ := Aside0.mk (below_step Q19 hb); clear BK217; clear BK218; clear HB; have BK217 := n0_; have BK218 := n1_; have HB := n2_; clear n0_ n1_ n2_; (try clear hb); (try clear hb2); (try clear hk); (try clear hi))))
  go_ret
  exact ⟨Q6, Q19⟩
 rw [if_neg c4] at H
 have c4b0 : (t219.toList == ([] : List UInt8)) = false := beq_eq_false_iff_ne.mpr c4
 have c4b1 : (t219.toList != ([] : List UInt8)) = true := bne_iff_ne.mpr c4
 have H' := Aside0.mk H
 clear H
 go_enter Tryz.func34, Tryz.ntmps34
 go_wp2_with (first | ((with_reducible refine gate_dst (N := 2) rfl ?_); (try (refine gate_guard Q2 ?_; dsimp only)); refine box_event ?hg (N := 2) ?hd (cs := #[.int .i64 a0_0, .int .i64 a0_1, .bool a0_2, .slice A0_3 l0_3.length c0_3]) (t := 24) ?hr ?_; (case hd => rfl); (case hg => rfl); (case hr => first | (go_simp; done) | (go_simp; rfl)); intro gb217 hg w10 hbox hb; have n0_ := Aside0.mk (below_step Q1 hb); have n1_ := Aside0.mk (hbox); have n2_ := Aside0.mk ((Q155 : w.heap.size ≤ gb217)); have n3_ := Aside0.mk ((Q155 : w.heap.size ≤ gb217)); clear HB; have HB := n0_; have BK217 := n1_; have GW217 := n2_; have GE217 := n3_; clear n0_ n1_ n2_ n3_; clear hb hbox hg) | ((with_reducible refine gate_dst (N := 3) rfl ?_); (try (refine gate_guard Q2 ?_; dsimp only)); refine box_event ?hg (N := 3) ?hd (cs := #[.int .u8 a1_0, .int .i64 a1_1, .slice A1_2 l1_2.length c1_2, .int .i64 a1_3, .int .u32 a1_4]) (t := 83) ?hr ?_; (case hd => rfl); (case hg => rfl); (case hr => first | (go_simp; done) | (go_simp; rfl)); intro gb218 hg w11 hbox hb; have n0_ := Aside0.mk (blk_below (g := gb217) (o := .cells #[.int .i64 a0_0, .int .i64 a0_1, .bool a0_2, .slice A0_3 l0_3.length c0_3] 24 (0, 0)) Q18 hb); have n1_ := Aside0.mk (below_step Q34 hb); have n2_ := Aside0.mk (hbox); have n3_ := Aside0.mk ((Q159 : w.heap.size ≤ gb218)); have n4_ := Aside0.mk ((Q159 : w.heap.size ≤ gb218)); have n5_ := Aside0.mk ((Q165 : gb217 ≠ gb218)); have n6_ := Aside0.mk ((Q166 : gb218 ≠ gb217)); clear BK217; clear HB; have BK217 := n0_; have HB := n1_; have BK218 := n2_; have GW218 := n3_; have GE218 := n4_; have NB217_218 := n5_; have NB218_217 := n6_; clear n0_ n1_ n2_ n3_ n4_ n5_ n6_; clear hb hbox hg; have hnb12 := NB218_217.out; have hnc12 := NB217_218.out; have hcz13_0 : w11.cell? ⟨gb218, 0, none⟩ = some (.int .u8 a1_0) := (blk_cell BK218.out 0).trans rfl; have hcz13_1 : w11.cell? ⟨gb218, 1, none⟩ = some (.int .i64 a1_1) := (blk_cell BK218.out 1).trans rfl; have hcz13_2 : w11.cell? ⟨gb218, 2, none⟩ = some (.slice A1_2 l1_2.length c1_2) := (blk_cell BK218.out 2).trans rfl; have hcz13_3 : w11.cell? ⟨gb218, 3, none⟩ = some (.int .i64 a1_3) := (blk_cell BK218.out 3).trans rfl; have hcz13_4 : w11.cell? ⟨gb218, 4, none⟩ = some (.int .u32 a1_4) := (blk_cell BK218.out 4).trans rfl; have hfz13_0 := blk_frozen BK218.out 0; have hfz13_1 := blk_frozen BK218.out 1; have hfz13_2 := blk_frozen BK218.out 2; have hfz13_3 := blk_frozen BK218.out 3; have hfz13_4 := blk_frozen BK218.out 4) | (go_at_call 36; (with_reducible refine (mandrelref11_Name.calls k a1_0 t219 _ ?side1 A3.out).mono ?_); (case side1 => exact GG.nil _); rintro e w14 ⟨rfl, hb⟩; have n0_ := Aside0.mk (blk_below (g := gb217) (o := .cells #[.int .i64 a0_0, .int .i64 a0_1, .bool a0_2, .slice A0_3 l0_3.length c0_3] 24 (0, 0)) Q18 hb); have n1_ := Aside0.mk (blk_below (g := gb218) (o := .cells #[.int .u8 a1_0, .int .i64 a1_1, .slice A1_2 l1_2.length c1_2, .int .i64 a1_3, .int .u32 a1_4] 83 (0, 0)) Q26 hb); have n2_ := Aside0.mk (below_step Q19 hb); clear BK217; clear BK218; clear HB; have BK217 := n0_; have BK218 := n1_; have HB := n2_; clear n0_ n1_ n2_; (try clear hb); (try clear hb2); (try clear hk); (try clear hi)))
 repeat (go_quiet (first | ((with_reducible refine gate_dst (N := 2) rfl ?_); (try (refine gate_guard Q2 ?_; dsimp only)); refine box_event ?hg (N := 2) ?hd (cs := #[.int .i64 a0_0, .int .i64 a0_1, .bool a0_2, .slice A0_3 l0_3.length c0_3]) (t := 24) ?hr ?_; (case hd => rfl); (case hg => rfl); (case hr => first | (go_simp; done) | (go_simp; rfl)); intro gb217 hg w10 hbox hb; have n0_ := Aside0.mk (below_step Q1 hb); have n1_ := Aside0.mk (hbox); have n2_ := Aside0.mk ((Q155 : w.heap.size ≤ gb217)); have n3_ := Aside0.mk ((Q155 : w.heap.size ≤ gb217)); clear HB; have HB := n0_; have BK217 := n1_; have GW217 := n2_; have GE217 := n3_; clear n0_ n1_ n2_ n3_; clear hb hbox hg) | ((with_reducible refine gate_dst (N := 3) rfl ?_); (try (refine gate_guard Q2 ?_; dsimp only)); refine box_event ?hg (N := 3) ?hd (cs := #[.int .u8 a1_0, .int .i64 a1_1, .slice A1_2 l1_2.length c1_2, .int .i64 a1_3, .int .u32 a1_4]) (t := 83) ?hr ?_; (case hd => rfl); (case hg => rfl); (case hr => first | (go_simp; done) | (go_simp; rfl)); intro gb218 hg w11 hbox hb; have n0_ := Aside0.mk (blk_below (g := gb217) (o := .cells #[.int .i64 a0_0, .int .i64 a0_1, .bool a0_2, .slice A0_3 l0_3.length c0_3] 24 (0, 0)) Q18 hb); have n1_ := Aside0.mk (below_step Q34 hb); have n2_ := Aside0.mk (hbox); have n3_ := Aside0.mk ((Q159 : w.heap.size ≤ gb218)); have n4_ := Aside0.mk ((Q159 : w.heap.size ≤ gb218)); have n5_ := Aside0.mk ((Q165 : gb217 ≠ gb218)); have n6_ := Aside0.mk ((Q166 : gb218 ≠ gb217)); clear BK217; clear HB; have BK217 := n0_; have HB := n1_; have BK218 := n2_; have GW218 := n3_; have GE218 := n4_; have NB217_218 := n5_; have NB218_217 := n6_; clear n0_ n1_ n2_ n3_ n4_ n5_ n6_; clear hb hbox hg; have hnb12 := NB218_217.out; have hnc12 := NB217_218.out; have hcz13_0 : w11.cell? ⟨gb218, 0, none⟩ = some (.int .u8 a1_0) := (blk_cell BK218.out 0).trans rfl; have hcz13_1 : w11.cell? ⟨gb218, 1, none⟩ = some (.int .i64 a1_1) := (blk_cell BK218.out 1).trans rfl; have hcz13_2 : w11.cell? ⟨gb218, 2, none⟩ = some (.slice A1_2 l1_2.length c1_2) := (blk_cell BK218.out 2).trans rfl; have hcz13_3 : w11.cell? ⟨gb218, 3, none⟩ = some (.int .i64 a1_3) := (blk_cell BK218.out 3).trans rfl; have hcz13_4 : w11.cell? ⟨gb218, 4, none⟩ = some (.int .u32 a1_4) := (blk_cell BK218.out 4).trans rfl; have hfz13_0 := blk_frozen BK218.out 0; have hfz13_1 := blk_frozen BK218.out 1; have hfz13_2 := blk_frozen BK218.out 2; have hfz13_3 := blk_frozen BK218.out 3; have hfz13_4 := blk_frozen BK218.out 4) | (go_at_call 36; (with_reducible refine (mandrelref11_Name.calls k a1_0 t219 _ ?side1 A3.out).mono ?_); (case side1 => exact GG.nil _); rintro e w14 ⟨rfl, hb⟩; have n0_ := Aside0.mk (blk_below (g := gb217) (o := .cells #[.int .i64 a0_0, .int .i64 a0_1, .bool a0_2, .slice A0_3 l0_3.length c0_3] 24 (0, 0)) Q18 hb); have n1_ := Aside0.mk (blk_below (g := gb218) (o := .cells #[.int .u8 a1_0, .int .i64 a1_1, .slice A1_2 l1_2.length c1_2, .int .i64 a1_3, .int .u32 a1_4] 83 (0, 0)) Q26 hb); have n2_ := Aside0.mk (below_step Q19 hb); clear BK217; clear BK218; clear HB; have BK217 := n0_; have BK218 := n1_; have HB := n2_; clear n0_ n1_ n2_; (try clear hb); (try clear hb2); (try clear hk); (try clear hi))); try go_wp2_with (first | ((with_reducible refine gate_dst (N := 2) rfl ?_); (try (refine gate_guard Q2 ?_; dsimp only)); refine box_event ?hg (N := 2) ?hd (cs := #[.int .i64 a0_0, .int .i64 a0_1, .bool a0_2, .slice A0_3 l0_3.length c0_3]) (t := 24) ?hr ?_; (case hd => rfl); (case hg => rfl); (case hr => first | (go_simp; done) | (go_simp; rfl)); intro gb217 hg w10 hbox hb; have n0_ := Aside0.mk (below_step Q1 hb); have n1_ := Aside0.mk (hbox); have n2_ := Aside0.mk ((Q155 : w.heap.size ≤ gb217)); have n3_ := Aside0.mk ((Q155 : w.heap.size ≤ gb217)); clear HB; have HB := n0_; have BK217 := n1_; have GW217 := n2_; have GE217 := n3_; clear n0_ n1_ n2_ n3_; clear hb hbox hg) | ((with_reducible refine gate_dst (N := 3) rfl ?_); (try (refine gate_guard Q2 ?_; dsimp only)); refine box_event ?hg (N := 3) ?hd (cs := #[.int .u8 a1_0, .int .i64 a1_1, .slice A1_2 l1_2.length c1_2, .int .i64 a1_3, .int .u32 a1_4]) (t := 83) ?hr ?_; (case hd => rfl); (case hg => rfl); (case hr => first | (go_simp; done) | (go_simp; rfl)); intro gb218 hg w11 hbox hb; have n0_ := Aside0.mk (blk_below (g := gb217) (o := .cells #[.int .i64 a0_0, .int .i64 a0_1, .bool a0_2, .slice A0_3 l0_3.length c0_3] 24 (0, 0)) Q18 hb); have n1_ := Aside0.mk (below_step Q34 hb); have n2_ := Aside0.mk (hbox); have n3_ := Aside0.mk ((Q159 : w.heap.size ≤ gb218)); have n4_ := Aside0.mk ((Q159 : w.heap.size ≤ gb218)); have n5_ := Aside0.mk ((Q165 : gb217 ≠ gb218)); have n6_ := Aside0.mk ((Q166 : gb218 ≠ gb217)); clear BK217; clear HB; have BK217 := n0_; have HB := n1_; have BK218 := n2_; have GW218 := n3_; have GE218 := n4_; have NB217_218 := n5_; have NB218_217 := n6_; clear n0_ n1_ n2_ n3_ n4_ n5_ n6_; clear hb hbox hg; have hnb12 := NB218_217.out; have hnc12 := NB217_218.out; have hcz13_0 : w11.cell? ⟨gb218, 0, none⟩ = some (.int .u8 a1_0) := (blk_cell BK218.out 0).trans rfl; have hcz13_1 : w11.cell? ⟨gb218, 1, none⟩ = some (.int .i64 a1_1) := (blk_cell BK218.out 1).trans rfl; have hcz13_2 : w11.cell? ⟨gb218, 2, none⟩ = some (.slice A1_2 l1_2.length c1_2) := (blk_cell BK218.out 2).trans rfl; have hcz13_3 : w11.cell? ⟨gb218, 3, none⟩ = some (.int .i64 a1_3) := (blk_cell BK218.out 3).trans rfl; have hcz13_4 : w11.cell? ⟨gb218, 4, none⟩ = some (.int .u32 a1_4) := (blk_cell BK218.out 4).trans rfl; have hfz13_0 := blk_frozen BK218.out 0; have hfz13_1 := blk_frozen BK218.out 1; have hfz13_2 := blk_frozen BK218.out 2; have hfz13_3 := blk_frozen BK218.out 3; have hfz13_4 := blk_frozen BK218.out 4) | (go_at_call 36; (with_reducible refine (mandrelref11_Name.calls k a1_0 t219 _ ?side1 A3.out).mono ?_); (case side1 => exact GG.nil _); rintro e w14 ⟨rfl, hb⟩; have n0_ := Aside0.mk (blk_below (g := gb217) (o := .cells #[.int .i64 a0_0, .int .i64 a0_1, .bool a0_2, .slice A0_3 l0_3.length c0_3] 24 (0, 0)) Q18 hb); have n1_ := Aside0.mk (blk_below (g := gb218) (o := .cells #[.int .u8 a1_0, .int .i64 a1_1, .slice A1_2 l1_2.length c1_2, .int .i64 a1_3, .int .u32 a1_4] 83 (0, 0)) Q26 hb); have n2_ := Aside0.mk (below_step Q19 hb); clear BK217; clear BK218; clear HB; have BK217 := n0_; have BK218 := n1_; have HB := n2_; clear n0_ n1_ n2_; (try clear hb); (try clear hb2); (try clear hk); (try clear hi))))
 go_loopg [6] k (fun kq v6 w' => ∃ (x6_1 : Int), v6 = .int .i64 x6_1 ∧ Aside0 (mandrelref11_ins.l0 kq t219 x6_1 a0_0 a0_1 a0_2 l0_3 a1_0 a1_1 l1_2 a1_3 a1_4 = some r) ∧ Aside0 (kq ≤ k) ∧ Aside0 (w'.heap[gb217]? = some (.cells #[.int .i64 a0_0, .int .i64 a0_1, .bool a0_2, (.slice A0_3 l0_3.length c0_3)] 24 (0, 0))) ∧ Aside0 (w'.heap[gb218]? = some (.cells #[.int .u8 a1_0, .int .i64 a1_1, (.slice A1_2 l1_2.length c1_2), .int .i64 a1_3, .int .u32 a1_4] 83 (0, 0))) ∧ Aside0 (Below w.heap.size w w'))
 case atStart => exact ⟨(0), Q3, H', ⟨Nat.le_refl _⟩, ⟨Q18⟩, ⟨Q26⟩, ⟨Q19⟩⟩
 case round =>
  clear H'
  try clear c4
  try clear c4b0
  try clear c4b1
  try clear hcz13_0 hcz13_1 hcz13_2 hcz13_3 hcz13_4 hfz13_0 hfz13_1 hfz13_2 hfz13_3 hfz13_4
  obtain ⟨x6_1, rfl, HA, HK1, BK217, BK218, HB⟩ := hrel
  cases gk with
  | zero => exact absurd HA.out (by simp [mandrelref11_ins.l0])
  | succ k1 =>
   have H := HA.out
   clear HA
   simp only [mandrelref11_ins.l0] at H
   by_cases c15 : x6_1 < (l1_2.length : Int)
   ·rw [if_pos c15] at H
    have c15b0 : decide (x6_1 < (l1_2.length : Int)) = true := decide_eq_true c15
    clear c15
    by_cases c16 : 0 ≤ x6_1
    ·rw [if_pos c16] at H
     have c16b0 : decide (0 ≤ x6_1) = true := decide_eq_true c16
     clear c16
     by_cases c17 : (rd l1_2 x6_1) < 0
     ·rw [if_pos c17] at H
      have c17b0 : decide ((rd l1_2 x6_1) < 0) = true := decide_eq_true c17
      clear c17
      obtain rfl := Option.some.inj H
      have hnb18 := NB218_217.out
      have hnc18 := NB217_218.out
      have ⟨hcz19_0, hcz19_1, hcz19_2, hcz19_3, hcz19_4, hfz19_0, hfz19_1, hfz19_2, hfz19_3, hfz19_4⟩ := blk5 BK218.out
      have p220 : 0 ≤ (x6_1 : Int) := of_decide_eq_true Q4
      have q220 : x6_1 < (l1_2.length : Int) := of_decide_eq_true Q4
      obtain ⟨ad220, e220, hx220_0⟩ := Kd.at_int HR1_2.out x6_1 p220 q220
      cases e220
      replace hx220_0 := (HB.out.cell (World.block_lt_of_cell? w _ hx220_0)).trans hx220_0
      replace p220 := eq_true p220
      replace q220 := eq_true q220
      go_wp2
      repeat (go_quiet (fail); try go_wp2)
      go_ret
      exact ⟨Q6, Q19⟩
     rw [if_neg c17] at H
     have c17b0 : decide ((rd l1_2 x6_1) < 0) = false := decide_eq_false c17
     clear c17
     by_cases c20 : (rd l1_2 x6_1) ≥ a0_1
     ·rw [if_pos c20] at H
      have c20b0 : decide (a0_1 ≤ (rd l1_2 x6_1)) = true := decide_eq_true c20
      clear c20
      obtain rfl := Option.some.inj H
      have hnb21 := NB218_217.out
      have hnc21 := NB217_218.out
      have ⟨hcz22_0, hcz22_1, hcz22_2, hcz22_3, hcz22_4, hfz22_0, hfz22_1, hfz22_2, hfz22_3, hfz22_4⟩ := blk5 BK218.out
      have p220 : 0 ≤ (x6_1 : Int) := of_decide_eq_true Q4
      have q220 : x6_1 < (l1_2.length : Int) := of_decide_eq_true Q4
      obtain ⟨ad220, e220, hx220_0⟩ := Kd.at_int HR1_2.out x6_1 p220 q220
      cases e220
      replace hx220_0 := (HB.out.cell (World.block_lt_of_cell? w _ hx220_0)).trans hx220_0
      replace p220 := eq_true p220
      replace q220 := eq_true q220
      have p221 : 0 ≤ (x6_1 : Int) := of_decide_eq_true Q4
      have q221 : x6_1 < (l1_2.length : Int) := of_decide_eq_true Q4
      obtain ⟨ad221, e221, hx221_0⟩ := Kd.at_int HR1_2.out x6_1 p221 q221
      obtain rfl : ad220 = ad221 := (by injection e221)
      replace hx221_0 := (HB.out.cell (World.block_lt_of_cell? w _ hx221_0)).trans hx221_0
      replace p221 := eq_true p221
      replace q221 := eq_true q221
      have ⟨hcz23_0, hcz23_1, hcz23_2, hcz23_3, hfz23_0, hfz23_1, hfz23_2, hfz23_3⟩ := blk4 BK217.out
      go_wp2
      repeat (go_quiet (fail); try go_wp2)
      go_ret
      exact ⟨Q6, Q19⟩
     rw [if_neg c20] at H
     have c20b0 : decide (a0_1 ≤ (rd l1_2 x6_1)) = false := decide_eq_false c20
     clear c20
     have H' := Aside0.mk H
     clear H
     have hnb24 := NB218_217.out
     have hnc24 := NB217_218.out
     have ⟨hcz25_0, hcz25_1, hcz25_2, hcz25_3, hcz25_4, hfz25_0, hfz25_1, hfz25_2, hfz25_3, hfz25_4⟩ := blk5 BK218.out
     have p220 : 0 ≤ (x6_1 : Int) := of_decide_eq_true Q4
     have q220 : x6_1 < (l1_2.length : Int) := of_decide_eq_true Q4
     obtain ⟨ad220, e220, hx220_0⟩ := Kd.at_int HR1_2.out x6_1 p220 q220
     cases e220
     replace hx220_0 := (HB.out.cell (World.block_lt_of_cell? w _ hx220_0)).trans hx220_0
     replace p220 := eq_true p220
     replace q220 := eq_true q220
     have p221 : 0 ≤ (x6_1 : Int) := of_decide_eq_true Q4
     have q221 : x6_1 < (l1_2.length : Int) := of_decide_eq_true Q4
     obtain ⟨ad221, e221, hx221_0⟩ := Kd.at_int HR1_2.out x6_1 p221 q221
     obtain rfl : ad220 = ad221 := (by injection e221)
     replace hx221_0 := (HB.out.cell (World.block_lt_of_cell? w _ hx221_0)).trans hx221_0
     replace p221 := eq_true p221
     replace q221 := eq_true q221
     have ⟨hcz26_0, hcz26_1, hcz26_2, hcz26_3, hfz26_0, hfz26_1, hfz26_2, hfz26_3⟩ := blk4 BK217.out
     go_wp2
     repeat (go_quiet (fail); try go_wp2)
     go_roundg k1
     case measure => have := HK1.out; omega
     case rel => exact ⟨(wrap64 (x6_1 + 1)), Q3, H', ⟨by have := HK1.out; omega⟩, ⟨Q18⟩, ⟨Q26⟩, ⟨Q19⟩⟩
    rw [if_neg c16] at H
    exact absurd H Q8
   rw [if_neg c15] at H
   have c15b0 : decide (x6_1 < (l1_2.length : Int)) = false := decide_eq_false c15
   clear c15
   replace H := Option.bind_eq_some_iff.mp H
   obtain ⟨⟨t222, t223⟩, A270, H⟩ := H
   replace H : (if t222 ≥ 0 then (if (l1_2.length : Int) = t222 then (if a1_1 < (-1) then (mandrelref11_ins.j1 k1 t219 true a0_0 a0_1 a0_2 l0_3 a1_0 a1_1 l1_2 a1_3 a1_4) else (if a1_1 ≥ a0_1 then (mandrelref11_ins.j1 k1 t219 true a0_0 a0_1 a0_2 l0_3 a1_0 a1_1 l1_2 a1_3 a1_4) else (if t223 = 2 then (mandrelref11_ins.j1 k1 t219 false a0_0 a0_1 a0_2 l0_3 a1_0 a1_1 l1_2 a1_3 a1_4) else (mandrelref11_ins.j1 k1 t219 ((t223 == 1) != (decide (a1_1 ≥ 0))) a0_0 a0_1 a0_2 l0_3 a1_0 a1_1 l1_2 a1_3 a1_4)))) else (mandrelref11_ins.j1 k1 t219 true a0_0 a0_1 a0_2 l0_3 a1_0 a1_1 l1_2 a1_3 a1_4)) else (if a1_1 < (-1) then (mandrelref11_ins.j1 k1 t219 true a0_0 a0_1 a0_2 l0_3 a1_0 a1_1 l1_2 a1_3 a1_4) else (if a1_1 ≥ a0_1 then (mandrelref11_ins.j1 k1 t219 true a0_0 a0_1 a0_2 l0_3 a1_0 a1_1 l1_2 a1_3 a1_4) else (if t223 = 2 then (mandrelref11_ins.j1 k1 t219 false a0_0 a0_1 a0_2 l0_3 a1_0 a1_1 l1_2 a1_3 a1_4) else (mandrelref11_ins.j1 k1 t219 ((t223 == 1) != (decide (a1_1 ≥ 0))) a0_0 a0_1 a0_2 l0_3 a1_0 a1_1 l1_2 a1_3 a1_4))))) = some r := H
   have A27 := Aside0.mk A270
   clear A270
   have HC28 := Aside0.mk H
   clear H
   have hnb29 := NB218_217.out
   have hnc29 := NB217_218.out
   have ⟨hcz30_0, hcz30_1, hcz30_2, hcz30_3, hcz30_4, hfz30_0, hfz30_1, hfz30_2, hfz30_3, hfz30_4⟩ := blk5 BK218.out
   go_upto_region 10 with (first | (go_at_call 64; (with_reducible refine (mandrelref11_Shape.calls k1 a1_0 t222 t223 _ ?side1 A27.out).mono ?_); (case side1 => exact GG.nil _); rintro e w31 ⟨rfl, hb⟩; have n0_ := Aside0.mk (blk_below (g := gb217) (o := .cells #[.int .i64 a0_0, .int .i64 a0_1, .bool a0_2, .slice A0_3 l0_3.length c0_3] 24 (0, 0)) Q18 hb); have n1_ := Aside0.mk (blk_below (g := gb218) (o := .cells #[.int .u8 a1_0, .int .i64 a1_1, .slice A1_2 l1_2.length c1_2, .int .i64 a1_3, .int .u32 a1_4] 83 (0, 0)) Q26 hb); have n2_ := Aside0.mk (below_step Q19 hb); clear BK217; clear BK218; clear HB; have BK217 := n0_; have BK218 := n1_; have HB := n2_; clear n0_ n1_ n2_; (try clear hb); (try clear hb2); (try clear hk); (try clear hi)))
   repeat (go_quiet (first | (go_at_call 64; (with_reducible refine (mandrelref11_Shape.calls k1 a1_0 t222 t223 _ ?side1 A27.out).mono ?_); (case side1 => exact GG.nil _); rintro e w31 ⟨rfl, hb⟩; have n0_ := Aside0.mk (blk_below (g := gb217) (o := .cells #[.int .i64 a0_0, .int .i64 a0_1, .bool a0_2, .slice A0_3 l0_3.length c0_3] 24 (0, 0)) Q18 hb); have n1_ := Aside0.mk (blk_below (g := gb218) (o := .cells #[.int .u8 a1_0, .int .i64 a1_1, .slice A1_2 l1_2.length c1_2, .int .i64 a1_3, .int .u32 a1_4] 83 (0, 0)) Q26 hb); have n2_ := Aside0.mk (below_step Q19 hb); clear BK217; clear BK218; clear HB; have BK217 := n0_; have BK218 := n1_; have HB := n2_; clear n0_ n1_ n2_; (try clear hb); (try clear hb2); (try clear hk); (try clear hi))); go_upto_region 10 with (first | (go_at_call 64; (with_reducible refine (mandrelref11_Shape.calls k1 a1_0 t222 t223 _ ?side1 A27.out).mono ?_); (case side1 => exact GG.nil _); rintro e w31 ⟨rfl, hb⟩; have n0_ := Aside0.mk (blk_below (g := gb217) (o := .cells #[.int .i64 a0_0, .int .i64 a0_1, .bool a0_2, .slice A0_3 l0_3.length c0_3] 24 (0, 0)) Q18 hb); have n1_ := Aside0.mk (blk_below (g := gb218) (o := .cells #[.int .u8 a1_0, .int .i64 a1_1, .slice A1_2 l1_2.length c1_2, .int .i64 a1_3, .int .u32 a1_4] 83 (0, 0)) Q26 hb); have n2_ := Aside0.mk (below_step Q19 hb); clear BK217; clear BK218; clear HB; have BK217 := n0_; have BK218 := n1_; have HB := n2_; clear n0_ n1_ n2_; (try clear hb); (try clear hb2); (try clear hk); (try clear hi))))
   (try simp only [Act.put, List.setIfInBounds_toArray, List.set_cons_zero, List.set_cons_succ])
   go_cut [76] (fun v76 wc => ∃ (kq : Nat) (x76_27 : Bool), v76 = .bool x76_27 ∧ Aside0 (mandrelref11_ins.j1 kq t219 x76_27 a0_0 a0_1 a0_2 l0_3 a1_0 a1_1 l1_2 a1_3 a1_4 = some r) ∧ Aside0 (kq ≤ k1) ∧ Aside0 (wc.heap[gb217]? = some (.cells #[.int .i64 a0_0, .int .i64 a0_1, .bool a0_2, (.slice A0_3 l0_3.length c0_3)] 24 (0, 0))) ∧ Aside0 (wc.heap[gb218]? = some (.cells #[.int .u8 a1_0, .int .i64 a1_1, (.slice A1_2 l1_2.length c1_2), .int .i64 a1_3, .int .u32 a1_4] 83 (0, 0))) ∧ Aside0 (Below w.heap.size w wc))
   case first =>
    have H := HC28.out
    clear HC28
    by_cases c32 : t222 ≥ 0
    ·rw [if_pos c32] at H
     have c32b0 : decide (0 ≤ t222) = true := decide_eq_true c32
     clear c32
     (first | rw [c32b0] | (simp only [i64_w, i32_w]; rw [c32b0]) | skip)
     by_cases c33 : (l1_2.length : Int) = t222
     ·rw [if_pos c33] at H
      have c33b0 : ((l1_2.length : Int) == t222) = true := beq_iff_eq.mpr c33
      have c33b1 : ((l1_2.length : Int) != t222) = false := bne_eq_false_iff_eq.mpr c33
      clear c33
      by_cases c34 : a1_1 < (-1)
      ·rw [if_pos c34] at H
       have c34b0 : decide (a1_1 < (-1)) = true := decide_eq_true c34
       clear c34
       have H' := Aside0.mk H
       clear H
       have hnb35 := NB218_217.out
       have hnc35 := NB217_218.out
       have ⟨hcz36_0, hcz36_1, hcz36_2, hcz36_3, hcz36_4, hfz36_0, hfz36_1, hfz36_2, hfz36_3, hfz36_4⟩ := blk5 BK218.out
       go_wp2
       repeat (go_quiet (fail); try go_wp2)
       go_meet
       case rel => exact ⟨_, (true), Q3, H', ⟨Q44⟩, ⟨Q18⟩, ⟨Q26⟩, ⟨Q19⟩⟩
      rw [if_neg c34] at H
      have c34b0 : decide (a1_1 < (-1)) = false := decide_eq_false c34
      clear c34
      by_cases c37 : a1_1 ≥ a0_1
      ·rw [if_pos c37] at H
       have c37b0 : decide (a0_1 ≤ a1_1) = true := decide_eq_true c37
       clear c37
       have H' := Aside0.mk H
       clear H
       have hnb38 := NB218_217.out
       have hnc38 := NB217_218.out
       have ⟨hcz39_0, hcz39_1, hcz39_2, hcz39_3, hcz39_4, hfz39_0, hfz39_1, hfz39_2, hfz39_3, hfz39_4⟩ := blk5 BK218.out
       have ⟨hcz40_0, hcz40_1, hcz40_2, hcz40_3, hfz40_0, hfz40_1, hfz40_2, hfz40_3⟩ := blk4 BK217.out
       go_wp2
       repeat (go_quiet (fail); try go_wp2)
       go_meet
       case rel => exact ⟨_, (true), Q3, H', ⟨Q44⟩, ⟨Q18⟩, ⟨Q26⟩, ⟨Q19⟩⟩
      rw [if_neg c37] at H
      have c37b0 : decide (a0_1 ≤ a1_1) = false := decide_eq_false c37
      clear c37
      by_cases c41 : t223 = 2
      ·rw [if_pos c41] at H
       have c41b0 : (t223 == 2) = true := beq_iff_eq.mpr c41
       have c41b1 : (t223 != 2) = false := bne_eq_false_iff_eq.mpr c41
       clear c41
       have H' := Aside0.mk H
       clear H
       have hnb42 := NB218_217.out
       have hnc42 := NB217_218.out
       have ⟨hcz43_0, hcz43_1, hcz43_2, hcz43_3, hcz43_4, hfz43_0, hfz43_1, hfz43_2, hfz43_3, hfz43_4⟩ := blk5 BK218.out
       have ⟨hcz44_0, hcz44_1, hcz44_2, hcz44_3, hfz44_0, hfz44_1, hfz44_2, hfz44_3⟩ := blk4 BK217.out
       go_wp2
       repeat (go_quiet (fail); try go_wp2)
       go_meet
       case rel => exact ⟨_, (false), Q3, H', ⟨Q44⟩, ⟨Q18⟩, ⟨Q26⟩, ⟨Q19⟩⟩
      rw [if_neg c41] at H
      have c41b0 : (t223 == 2) = false := beq_eq_false_iff_ne.mpr c41
      have c41b1 : (t223 != 2) = true := bne_iff_ne.mpr c41
      have H' := Aside0.mk H
      clear H
      have hnb45 := NB218_217.out
      have hnc45 := NB217_218.out
      have ⟨hcz46_0, hcz46_1, hcz46_2, hcz46_3, hcz46_4, hfz46_0, hfz46_1, hfz46_2, hfz46_3, hfz46_4⟩ := blk5 BK218.out
      have ⟨hcz47_0, hcz47_1, hcz47_2, hcz47_3, hfz47_0, hfz47_1, hfz47_2, hfz47_3⟩ := blk4 BK217.out
      go_wp2
      repeat (go_quiet (fail); try go_wp2)
      go_meet
      case rel => exact ⟨_, (((t223 == 1) != (decide (a1_1 ≥ 0)))), Q3, H', ⟨Q44⟩, ⟨Q18⟩, ⟨Q26⟩, ⟨Q19⟩⟩
     rw [if_neg c33] at H
     have c33b0 : ((l1_2.length : Int) == t222) = false := beq_eq_false_iff_ne.mpr c33
     have c33b1 : ((l1_2.length : Int) != t222) = true := bne_iff_ne.mpr c33
     have H' := Aside0.mk H
     clear H
     have hnb48 := NB218_217.out
     have hnc48 := NB217_218.out
     have ⟨hcz49_0, hcz49_1, hcz49_2, hcz49_3, hcz49_4, hfz49_0, hfz49_1, hfz49_2, hfz49_3, hfz49_4⟩ := blk5 BK218.out
     go_wp2
     repeat (go_quiet (fail); try go_wp2)
     go_meet
     case rel => exact ⟨_, (true), Q3, H', ⟨Q44⟩, ⟨Q18⟩, ⟨Q26⟩, ⟨Q19⟩⟩
    rw [if_neg c32] at H
    have c32b0 : decide (0 ≤ t222) = false := decide_eq_false c32
    clear c32
    (first | rw [c32b0] | (simp only [i64_w, i32_w]; rw [c32b0]) | skip)
    by_cases c50 : a1_1 < (-1)
    ·rw [if_pos c50] at H
     have c50b0 : decide (a1_1 < (-1)) = true := decide_eq_true c50
     clear c50
     have H' := Aside0.mk H
     clear H
     have hnb51 := NB218_217.out
     have hnc51 := NB217_218.out
     have ⟨hcz52_0, hcz52_1, hcz52_2, hcz52_3, hcz52_4, hfz52_0, hfz52_1, hfz52_2, hfz52_3, hfz52_4⟩ := blk5 BK218.out
     go_wp2
     repeat (go_quiet (fail); try go_wp2)
     go_meet
     case rel => exact ⟨_, (true), Q3, H', ⟨Q44⟩, ⟨Q18⟩, ⟨Q26⟩, ⟨Q19⟩⟩
    rw [if_neg c50] at H
    have c50b0 : decide (a1_1 < (-1)) = false := decide_eq_false c50
    clear c50
    by_cases c53 : a1_1 ≥ a0_1
    ·rw [if_pos c53] at H
     have c53b0 : decide (a0_1 ≤ a1_1) = true := decide_eq_true c53
     clear c53
     have H' := Aside0.mk H
     clear H
     have hnb54 := NB218_217.out
     have hnc54 := NB217_218.out
     have ⟨hcz55_0, hcz55_1, hcz55_2, hcz55_3, hcz55_4, hfz55_0, hfz55_1, hfz55_2, hfz55_3, hfz55_4⟩ := blk5 BK218.out
     have ⟨hcz56_0, hcz56_1, hcz56_2, hcz56_3, hfz56_0, hfz56_1, hfz56_2, hfz56_3⟩ := blk4 BK217.out
     go_wp2
     repeat (go_quiet (fail); try go_wp2)
     go_meet
     case rel => exact ⟨_, (true), Q3, H', ⟨Q44⟩, ⟨Q18⟩, ⟨Q26⟩, ⟨Q19⟩⟩
    rw [if_neg c53] at H
    have c53b0 : decide (a0_1 ≤ a1_1) = false := decide_eq_false c53
    clear c53
    by_cases c57 : t223 = 2
    ·rw [if_pos c57] at H
     have c57b0 : (t223 == 2) = true := beq_iff_eq.mpr c57
     have c57b1 : (t223 != 2) = false := bne_eq_false_iff_eq.mpr c57
     clear c57
     have H' := Aside0.mk H
     clear H
     have hnb58 := NB218_217.out
     have hnc58 := NB217_218.out
     have ⟨hcz59_0, hcz59_1, hcz59_2, hcz59_3, hcz59_4, hfz59_0, hfz59_1, hfz59_2, hfz59_3, hfz59_4⟩ := blk5 BK218.out
     have ⟨hcz60_0, hcz60_1, hcz60_2, hcz60_3, hfz60_0, hfz60_1, hfz60_2, hfz60_3⟩ := blk4 BK217.out
     go_wp2
     repeat (go_quiet (fail); try go_wp2)
     go_meet
     case rel => exact ⟨_, (false), Q3, H', ⟨Q44⟩, ⟨Q18⟩, ⟨Q26⟩, ⟨Q19⟩⟩
    rw [if_neg c57] at H
    have c57b0 : (t223 == 2) = false := beq_eq_false_iff_ne.mpr c57
    have c57b1 : (t223 != 2) = true := bne_iff_ne.mpr c57
    have H' := Aside0.mk H
    clear H
    have hnb61 := NB218_217.out
    have hnc61 := NB217_218.out
    have ⟨hcz62_0, hcz62_1, hcz62_2, hcz62_3, hcz62_4, hfz62_0, hfz62_1, hfz62_2, hfz62_3, hfz62_4⟩ := blk5 BK218.out
    have ⟨hcz63_0, hcz63_1, hcz63_2, hcz63_3, hfz63_0, hfz63_1, hfz63_2, hfz63_3⟩ := blk4 BK217.out
    go_wp2
    repeat (go_quiet (fail); try go_wp2)
    go_meet
    case rel => exact ⟨_, (((t223 == 1) != (decide (a1_1 ≥ 0)))), Q3, H', ⟨Q44⟩, ⟨Q18⟩, ⟨Q26⟩, ⟨Q19⟩⟩
   case rest =>
    clear HC28
    try clear q2
    try clear hx2
    try clear c4
    try clear c4b0
    try clear c4b1
    try clear c15
    try clear c15b0
    try clear q22
    try clear hx22
    try clear hcz13_0 hcz13_1 hcz13_2 hcz13_3 hcz13_4 hfz13_0 hfz13_1 hfz13_2 hfz13_3 hfz13_4
    try clear hcz30_0 hcz30_1 hcz30_2 hcz30_3 hcz30_4 hfz30_0 hfz30_1 hfz30_2 hfz30_3 hfz30_4
    try clear hx220_0
    try clear hx221_0
    try clear q220
    try clear q221
    obtain ⟨kq, x76_27, rfl, HA, HJ27, BK217, BK218, HB⟩ := hcut
    cases kq with
    | zero => exact absurd HA.out (by simp [mandrelref11_ins.j1])
    | succ kj27 =>
     have H := HA.out
     clear HA
     simp only [mandrelref11_ins.j1] at H
     by_cases c64 : x76_27 = true
     ·subst c64
      have H1 : (some false) = some r := Q14
      clear H
      have H := H1
      clear H1
      obtain rfl := Option.some.inj H
      go_wp2
      repeat (go_quiet (fail); try go_wp2)
      go_ret
      exact ⟨Q6, Q19⟩
     replace c64 := Bool.eq_false_iff.mpr c64
     subst c64
     have H1 : (if t219.toList = ([99, 97, 108, 108, 95, 105, 110, 100, 105, 114, 101, 99, 116] : List UInt8) then (if (l1_2.length : Int) = 0 then (mandrelref11_ins.j2 kj27 t219 true a0_0 a0_1 a0_2 l0_3 a1_0 a1_1 l1_2 a1_3 a1_4) else (if a1_4 = 0 then (mandrelref11_ins.j2 kj27 t219 false a0_0 a0_1 a0_2 l0_3 a1_0 a1_1 l1_2 a1_3 a1_4) else ((mandrelref11_Memory.f kj27 a1_0).bind fun t224 => (mandrelref11_ins.j2 kj27 t219 (!t224) a0_0 a0_1 a0_2 l0_3 a1_0 a1_1 l1_2 a1_3 a1_4)))) else (if a1_4 = 0 then (mandrelref11_ins.j2 kj27 t219 false a0_0 a0_1 a0_2 l0_3 a1_0 a1_1 l1_2 a1_3 a1_4) else ((mandrelref11_Memory.f kj27 a1_0).bind fun t225 => (mandrelref11_ins.j2 kj27 t219 (!t225) a0_0 a0_1 a0_2 l0_3 a1_0 a1_1 l1_2 a1_3 a1_4)))) = some r := by rw [if_neg (show ¬ (false = true) by decide)] at H; exact H
     clear H
     have H := H1
     clear H1
     have HC65 := Aside0.mk H
     clear H
     go_upto_region 12 with (fail)
     repeat (go_quiet (fail); go_upto_region 12 with (fail))
     go_cut [95] (fun v95 wc => ∃ (kq : Nat) (x95_64 : Bool), v95 = .bool x95_64 ∧ Aside0 (mandrelref11_ins.j2 kq t219 x95_64 a0_0 a0_1 a0_2 l0_3 a1_0 a1_1 l1_2 a1_3 a1_4 = some r) ∧ Aside0 (kq ≤ kj27) ∧ Aside0 (wc.heap[gb217]? = some (.cells #[.int .i64 a0_0, .int .i64 a0_1, .bool a0_2, (.slice A0_3 l0_3.length c0_3)] 24 (0, 0))) ∧ Aside0 (wc.heap[gb218]? = some (.cells #[.int .u8 a1_0, .int .i64 a1_1, (.slice A1_2 l1_2.length c1_2), .int .i64 a1_3, .int .u32 a1_4] 83 (0, 0))) ∧ Aside0 (Below w.heap.size w wc))
     case first =>
      have H := HC65.out
      clear HC65
      by_cases c66 : t219.toList = ([99, 97, 108, 108, 95, 105, 110, 100, 105, 114, 101, 99, 116] : List UInt8)
      ·rw [if_pos c66] at H
       have c66b0 : (t219.toList == ([99, 97, 108, 108, 95, 105, 110, 100, 105, 114, 101, 99, 116] : List UInt8)) = true := beq_iff_eq.mpr c66
       have c66b1 : (t219.toList != ([99, 97, 108, 108, 95, 105, 110, 100, 105, 114, 101, 99, 116] : List UInt8)) = false := bne_eq_false_iff_eq.mpr c66
       clear c66
       (first | rw [c66b0] | (simp only [i64_w, i32_w]; rw [c66b0]) | skip)
       by_cases c67 : (l1_2.length : Int) = 0
       ·rw [if_pos c67] at H
        have c67b0 : ((l1_2.length : Int) == 0) = true := beq_iff_eq.mpr c67
        have c67b1 : ((l1_2.length : Int) != 0) = false := bne_eq_false_iff_eq.mpr c67
        clear c67
        have H' := Aside0.mk H
        clear H
        have hnb68 := NB218_217.out
        have hnc68 := NB217_218.out
        have ⟨hcz69_0, hcz69_1, hcz69_2, hcz69_3, hcz69_4, hfz69_0, hfz69_1, hfz69_2, hfz69_3, hfz69_4⟩ := blk5 BK218.out
        go_wp2
        repeat (go_quiet (fail); try go_wp2)
        go_meet
        case rel => exact ⟨_, (true), Q3, H', ⟨Q69⟩, ⟨Q18⟩, ⟨Q26⟩, ⟨Q19⟩⟩
       rw [if_neg c67] at H
       have c67b0 : ((l1_2.length : Int) == 0) = false := beq_eq_false_iff_ne.mpr c67
       have c67b1 : ((l1_2.length : Int) != 0) = true := bne_iff_ne.mpr c67
       have c67b2 : ¬ (l1_2 = []) := fun h_ => c67 (by rw [h_]; rfl)
       by_cases c70 : a1_4 = 0
       ·rw [if_pos c70] at H
        have c70b0 : (a1_4 == 0) = true := beq_iff_eq.mpr c70
        have c70b1 : (a1_4 != 0) = false := bne_eq_false_iff_eq.mpr c70
        clear c70
        have H' := Aside0.mk H
        clear H
        have hnb71 := NB218_217.out
        have hnc71 := NB217_218.out
        have ⟨hcz72_0, hcz72_1, hcz72_2, hcz72_3, hcz72_4, hfz72_0, hfz72_1, hfz72_2, hfz72_3, hfz72_4⟩ := blk5 BK218.out
        go_wp2
        repeat (go_quiet (fail); try go_wp2)
        go_meet
        case rel => exact ⟨_, (false), Q3, H', ⟨Q69⟩, ⟨Q18⟩, ⟨Q26⟩, ⟨Q19⟩⟩
       rw [if_neg c70] at H
       have c70b0 : (a1_4 == 0) = false := beq_eq_false_iff_ne.mpr c70
       have c70b1 : (a1_4 != 0) = true := bne_iff_ne.mpr c70
       replace H := Option.bind_eq_some_iff.mp H
       obtain ⟨t224, A730, H⟩ := H
       replace H : (mandrelref11_ins.j2 kj27 t219 (!t224) a0_0 a0_1 a0_2 l0_3 a1_0 a1_1 l1_2 a1_3 a1_4) = some r := H
       have A73 := Aside0.mk A730
       clear A730
       have H' := Aside0.mk H
       clear H
       have hnb74 := NB218_217.out
       have hnc74 := NB217_218.out
       have ⟨hcz75_0, hcz75_1, hcz75_2, hcz75_3, hcz75_4, hfz75_0, hfz75_1, hfz75_2, hfz75_3, hfz75_4⟩ := blk5 BK218.out
       go_wp2_with (first | (go_at_call 65; (with_reducible refine (mandrelref11_Memory.calls kj27 a1_0 t224 _ ?side1 A73.out).mono ?_); (case side1 => exact GG.nil _); rintro e w76 ⟨rfl, hb⟩; have n0_ := Aside0.mk (blk_below (g := gb217) (o := .cells #[.int .i64 a0_0, .int .i64 a0_1, .bool a0_2, .slice A0_3 l0_3.length c0_3] 24 (0, 0)) Q18 hb); have n1_ := Aside0.mk (blk_below (g := gb218) (o := .cells #[.int .u8 a1_0, .int .i64 a1_1, .slice A1_2 l1_2.length c1_2, .int .i64 a1_3, .int .u32 a1_4] 83 (0, 0)) Q26 hb); have n2_ := Aside0.mk (below_step Q19 hb); clear BK217; clear BK218; clear HB; have BK217 := n0_; have BK218 := n1_; have HB := n2_; clear n0_ n1_ n2_; (try clear hb); (try clear hb2); (try clear hk); (try clear hi)))
       repeat (go_quiet (first | (go_at_call 65; (with_reducible refine (mandrelref11_Memory.calls kj27 a1_0 t224 _ ?side1 A73.out).mono ?_); (case side1 => exact GG.nil _); rintro e w76 ⟨rfl, hb⟩; have n0_ := Aside0.mk (blk_below (g := gb217) (o := .cells #[.int .i64 a0_0, .int .i64 a0_1, .bool a0_2, .slice A0_3 l0_3.length c0_3] 24 (0, 0)) Q18 hb); have n1_ := Aside0.mk (blk_below (g := gb218) (o := .cells #[.int .u8 a1_0, .int .i64 a1_1, .slice A1_2 l1_2.length c1_2, .int .i64 a1_3, .int .u32 a1_4] 83 (0, 0)) Q26 hb); have n2_ := Aside0.mk (below_step Q19 hb); clear BK217; clear BK218; clear HB; have BK217 := n0_; have BK218 := n1_; have HB := n2_; clear n0_ n1_ n2_; (try clear hb); (try clear hb2); (try clear hk); (try clear hi))); try go_wp2_with (first | (go_at_call 65; (with_reducible refine (mandrelref11_Memory.calls kj27 a1_0 t224 _ ?side1 A73.out).mono ?_); (case side1 => exact GG.nil _); rintro e w76 ⟨rfl, hb⟩; have n0_ := Aside0.mk (blk_below (g := gb217) (o := .cells #[.int .i64 a0_0, .int .i64 a0_1, .bool a0_2, .slice A0_3 l0_3.length c0_3] 24 (0, 0)) Q18 hb); have n1_ := Aside0.mk (blk_below (g := gb218) (o := .cells #[.int .u8 a1_0, .int .i64 a1_1, .slice A1_2 l1_2.length c1_2, .int .i64 a1_3, .int .u32 a1_4] 83 (0, 0)) Q26 hb); have n2_ := Aside0.mk (below_step Q19 hb); clear BK217; clear BK218; clear HB; have BK217 := n0_; have BK218 := n1_; have HB := n2_; clear n0_ n1_ n2_; (try clear hb); (try clear hb2); (try clear hk); (try clear hi))))
       go_meet
       case rel => exact ⟨_, (!t224), Q3, H', ⟨Q69⟩, ⟨Q18⟩, ⟨Q26⟩, ⟨Q19⟩⟩
      rw [if_neg c66] at H
      have c66b0 : (t219.toList == ([99, 97, 108, 108, 95, 105, 110, 100, 105, 114, 101, 99, 116] : List UInt8)) = false := beq_eq_false_iff_ne.mpr c66
      have c66b1 : (t219.toList != ([99, 97, 108, 108, 95, 105, 110, 100, 105, 114, 101, 99, 116] : List UInt8)) = true := bne_iff_ne.mpr c66
      (first | rw [c66b0] | (simp only [i64_w, i32_w]; rw [c66b0]) | skip)
      by_cases c77 : a1_4 = 0
      ·rw [if_pos c77] at H
       have c77b0 : (a1_4 == 0) = true := beq_iff_eq.mpr c77
       have c77b1 : (a1_4 != 0) = false := bne_eq_false_iff_eq.mpr c77
       clear c77
       have H' := Aside0.mk H
       clear H
       have hnb78 := NB218_217.out
       have hnc78 := NB217_218.out
       have ⟨hcz79_0, hcz79_1, hcz79_2, hcz79_3, hcz79_4, hfz79_0, hfz79_1, hfz79_2, hfz79_3, hfz79_4⟩ := blk5 BK218.out
       go_wp2
       repeat (go_quiet (fail); try go_wp2)
       go_meet
       case rel => exact ⟨_, (false), Q3, H', ⟨Q69⟩, ⟨Q18⟩, ⟨Q26⟩, ⟨Q19⟩⟩
      rw [if_neg c77] at H
      have c77b0 : (a1_4 == 0) = false := beq_eq_false_iff_ne.mpr c77
      have c77b1 : (a1_4 != 0) = true := bne_iff_ne.mpr c77
      replace H := Option.bind_eq_some_iff.mp H
      obtain ⟨t225, A800, H⟩ := H
      replace H : (mandrelref11_ins.j2 kj27 t219 (!t225) a0_0 a0_1 a0_2 l0_3 a1_0 a1_1 l1_2 a1_3 a1_4) = some r := H
      have A80 := Aside0.mk A800
      clear A800
      have H' := Aside0.mk H
      clear H
      have hnb81 := NB218_217.out
      have hnc81 := NB217_218.out
      have ⟨hcz82_0, hcz82_1, hcz82_2, hcz82_3, hcz82_4, hfz82_0, hfz82_1, hfz82_2, hfz82_3, hfz82_4⟩ := blk5 BK218.out
      go_wp2_with (first | (go_at_call 65; (with_reducible refine (mandrelref11_Memory.calls kj27 a1_0 t225 _ ?side1 A80.out).mono ?_); (case side1 => exact GG.nil _); rintro e w83 ⟨rfl, hb⟩; have n0_ := Aside0.mk (blk_below (g := gb217) (o := .cells #[.int .i64 a0_0, .int .i64 a0_1, .bool a0_2, .slice A0_3 l0_3.length c0_3] 24 (0, 0)) Q18 hb); have n1_ := Aside0.mk (blk_below (g := gb218) (o := .cells #[.int .u8 a1_0, .int .i64 a1_1, .slice A1_2 l1_2.length c1_2, .int .i64 a1_3, .int .u32 a1_4] 83 (0, 0)) Q26 hb); have n2_ := Aside0.mk (below_step Q19 hb); clear BK217; clear BK218; clear HB; have BK217 := n0_; have BK218 := n1_; have HB := n2_; clear n0_ n1_ n2_; (try clear hb); (try clear hb2); (try clear hk); (try clear hi)))
      repeat (go_quiet (first | (go_at_call 65; (with_reducible refine (mandrelref11_Memory.calls kj27 a1_0 t225 _ ?side1 A80.out).mono ?_); (case side1 => exact GG.nil _); rintro e w83 ⟨rfl, hb⟩; have n0_ := Aside0.mk (blk_below (g := gb217) (o := .cells #[.int .i64 a0_0, .int .i64 a0_1, .bool a0_2, .slice A0_3 l0_3.length c0_3] 24 (0, 0)) Q18 hb); have n1_ := Aside0.mk (blk_below (g := gb218) (o := .cells #[.int .u8 a1_0, .int .i64 a1_1, .slice A1_2 l1_2.length c1_2, .int .i64 a1_3, .int .u32 a1_4] 83 (0, 0)) Q26 hb); have n2_ := Aside0.mk (below_step Q19 hb); clear BK217; clear BK218; clear HB; have BK217 := n0_; have BK218 := n1_; have HB := n2_; clear n0_ n1_ n2_; (try clear hb); (try clear hb2); (try clear hk); (try clear hi))); try go_wp2_with (first | (go_at_call 65; (with_reducible refine (mandrelref11_Memory.calls kj27 a1_0 t225 _ ?side1 A80.out).mono ?_); (case side1 => exact GG.nil _); rintro e w83 ⟨rfl, hb⟩; have n0_ := Aside0.mk (blk_below (g := gb217) (o := .cells #[.int .i64 a0_0, .int .i64 a0_1, .bool a0_2, .slice A0_3 l0_3.length c0_3] 24 (0, 0)) Q18 hb); have n1_ := Aside0.mk (blk_below (g := gb218) (o := .cells #[.int .u8 a1_0, .int .i64 a1_1, .slice A1_2 l1_2.length c1_2, .int .i64 a1_3, .int .u32 a1_4] 83 (0, 0)) Q26 hb); have n2_ := Aside0.mk (below_step Q19 hb); clear BK217; clear BK218; clear HB; have BK217 := n0_; have BK218 := n1_; have HB := n2_; clear n0_ n1_ n2_; (try clear hb); (try clear hb2); (try clear hk); (try clear hi))))
      go_meet
      case rel => exact ⟨_, (!t225), Q3, H', ⟨Q69⟩, ⟨Q18⟩, ⟨Q26⟩, ⟨Q19⟩⟩
     case rest =>
      clear HC65
      try clear q2
      try clear hx2
      try clear c4
      try clear c4b0
      try clear c4b1
      try clear c15
      try clear c15b0
      try clear q22
      try clear hx22
      try clear c64
      try clear hcz13_0 hcz13_1 hcz13_2 hcz13_3 hcz13_4 hfz13_0 hfz13_1 hfz13_2 hfz13_3 hfz13_4
      try clear hcz30_0 hcz30_1 hcz30_2 hcz30_3 hcz30_4 hfz30_0 hfz30_1 hfz30_2 hfz30_3 hfz30_4
      try clear hx220_0
      try clear hx221_0
      try clear q2
      try clear q22
      try clear q220
      try clear q221
      obtain ⟨kq, x95_64, rfl, HA, HJ64, BK217, BK218, HB⟩ := hcut
      cases kq with
      | zero => exact absurd HA.out (by simp [mandrelref11_ins.j2])
      | succ kj64 =>
       have H := HA.out
       clear HA
       simp only [mandrelref11_ins.j2] at H
       by_cases c84 : x95_64 = true
       ·subst c84
        have H1 : (some false) = some r := Q14
        clear H
        have H := H1
        clear H1
        obtain rfl := Option.some.inj H
        go_wp2
        repeat (go_quiet (fail); try go_wp2)
        go_ret
        exact ⟨Q6, Q19⟩
       replace c84 := Bool.eq_false_iff.mpr c84
       subst c84
       have H1 : (if t219.toList = ([114, 101, 116, 117, 114, 110] : List UInt8) then (if a0_2 = true then (if (l1_2.length : Int) = 1 then (some (a1_3 == 0)) else (some false)) else (if (l1_2.length : Int) = 0 then (some (a1_3 == 0)) else (some false))) else (if t219.toList = ([103, 108, 111, 98, 97, 108, 46, 103, 101, 116] : List UInt8) then (some (decide (a1_3 ≥ 0))) else (if t219.toList = ([103, 108, 111, 98, 97, 108, 46, 115, 101, 116] : List UInt8) then (some (decide (a1_3 ≥ 0))) else (if t219.toList = ([99, 97, 108, 108] : List UInt8) then (some (decide (a1_3 ≥ 0))) else (if t219.toList = ([99, 97, 108, 108, 95, 105, 110, 100, 105, 114, 101, 99, 116] : List UInt8) then (some (decide (a1_3 ≥ 0))) else (if t219.toList = ([99, 111, 110, 115, 116] : List UInt8) then (some true) else (some (a1_3 == 0)))))))) = some r := by rw [if_neg (show ¬ (false = true) by decide)] at H; exact H
       clear H
       have H := H1
       clear H1
       by_cases c85 : t219.toList = ([114, 101, 116, 117, 114, 110] : List UInt8)
       ·rw [if_pos c85] at H
        have c85b0 : (t219.toList == ([114, 101, 116, 117, 114, 110] : List UInt8)) = true := beq_iff_eq.mpr c85
        have c85b1 : (t219.toList != ([114, 101, 116, 117, 114, 110] : List UInt8)) = false := bne_eq_false_iff_eq.mpr c85
        clear c85
        by_cases c86 : a0_2 = true
        ·subst c86
         have H1 : (if (l1_2.length : Int) = 1 then (some (a1_3 == 0)) else (some false)) = some r := Q14
         clear H
         have H := H1
         clear H1
         by_cases c87 : (l1_2.length : Int) = 1
         ·rw [if_pos c87] at H
          have c87b0 : ((l1_2.length : Int) == 1) = true := beq_iff_eq.mpr c87
          have c87b1 : ((l1_2.length : Int) != 1) = false := bne_eq_false_iff_eq.mpr c87
          clear c87
          obtain rfl := Option.some.inj H
          have hnb88 := NB217_218.out
          have hnc88 := NB218_217.out
          have ⟨hcz89_0, hcz89_1, hcz89_2, hcz89_3, hfz89_0, hfz89_1, hfz89_2, hfz89_3⟩ := blk4 BK217.out
          have ⟨hcz90_0, hcz90_1, hcz90_2, hcz90_3, hcz90_4, hfz90_0, hfz90_1, hfz90_2, hfz90_3, hfz90_4⟩ := blk5 BK218.out
          go_wp2
          repeat (go_quiet (fail); try go_wp2)
          go_ret
          exact ⟨Q6, Q19⟩
         rw [if_neg c87] at H
         have c87b0 : ((l1_2.length : Int) == 1) = false := beq_eq_false_iff_ne.mpr c87
         have c87b1 : ((l1_2.length : Int) != 1) = true := bne_iff_ne.mpr c87
         obtain rfl := Option.some.inj H
         have hnb91 := NB217_218.out
         have hnc91 := NB218_217.out
         have ⟨hcz92_0, hcz92_1, hcz92_2, hcz92_3, hfz92_0, hfz92_1, hfz92_2, hfz92_3⟩ := blk4 BK217.out
         have ⟨hcz93_0, hcz93_1, hcz93_2, hcz93_3, hcz93_4, hfz93_0, hfz93_1, hfz93_2, hfz93_3, hfz93_4⟩ := blk5 BK218.out
         go_wp2
         repeat (go_quiet (fail); try go_wp2)
         go_ret
         exact ⟨Q6, Q19⟩
        replace c86 := Bool.eq_false_iff.mpr c86
        subst c86
        have H1 : (if (l1_2.length : Int) = 0 then (some (a1_3 == 0)) else (some false)) = some r := by rw [if_neg (show ¬ (false = true) by decide)] at H; exact H
        clear H
        have H := H1
        clear H1
        by_cases c94 : (l1_2.length : Int) = 0
        ·rw [if_pos c94] at H
         have c94b0 : ((l1_2.length : Int) == 0) = true := beq_iff_eq.mpr c94
         have c94b1 : ((l1_2.length : Int) != 0) = false := bne_eq_false_iff_eq.mpr c94
         clear c94
         obtain rfl := Option.some.inj H
         have hnb95 := NB217_218.out
         have hnc95 := NB218_217.out
         have ⟨hcz96_0, hcz96_1, hcz96_2, hcz96_3, hfz96_0, hfz96_1, hfz96_2, hfz96_3⟩ := blk4 BK217.out
         have ⟨hcz97_0, hcz97_1, hcz97_2, hcz97_3, hcz97_4, hfz97_0, hfz97_1, hfz97_2, hfz97_3, hfz97_4⟩ := blk5 BK218.out
         go_wp2
         repeat (go_quiet (fail); try go_wp2)
         go_ret
         exact ⟨Q6, Q19⟩
        rw [if_neg c94] at H
        have c94b0 : ((l1_2.length : Int) == 0) = false := beq_eq_false_iff_ne.mpr c94
        have c94b1 : ((l1_2.length : Int) != 0) = true := bne_iff_ne.mpr c94
        have c94b2 : ¬ (l1_2 = []) := fun h_ => c94 (by rw [h_]; rfl)
        obtain rfl := Option.some.inj H
        have hnb98 := NB217_218.out
        have hnc98 := NB218_217.out
        have ⟨hcz99_0, hcz99_1, hcz99_2, hcz99_3, hfz99_0, hfz99_1, hfz99_2, hfz99_3⟩ := blk4 BK217.out
        have ⟨hcz100_0, hcz100_1, hcz100_2, hcz100_3, hcz100_4, hfz100_0, hfz100_1, hfz100_2, hfz100_3, hfz100_4⟩ := blk5 BK218.out
        go_wp2
        repeat (go_quiet (fail); try go_wp2)
        go_ret
        exact ⟨Q6, Q19⟩
       rw [if_neg c85] at H
       have c85b0 : (t219.toList == ([114, 101, 116, 117, 114, 110] : List UInt8)) = false := beq_eq_false_iff_ne.mpr c85
       have c85b1 : (t219.toList != ([114, 101, 116, 117, 114, 110] : List UInt8)) = true := bne_iff_ne.mpr c85
       by_cases c101 : t219.toList = ([103, 108, 111, 98, 97, 108, 46, 103, 101, 116] : List UInt8)
       ·rw [if_pos c101] at H
        have c101b0 : (t219.toList == ([103, 108, 111, 98, 97, 108, 46, 103, 101, 116] : List UInt8)) = true := beq_iff_eq.mpr c101
        have c101b1 : (t219.toList != ([103, 108, 111, 98, 97, 108, 46, 103, 101, 116] : List UInt8)) = false := bne_eq_false_iff_eq.mpr c101
        clear c101
        obtain rfl := Option.some.inj H
        have hnb102 := NB218_217.out
        have hnc102 := NB217_218.out
        have ⟨hcz103_0, hcz103_1, hcz103_2, hcz103_3, hcz103_4, hfz103_0, hfz103_1, hfz103_2, hfz103_3, hfz103_4⟩ := blk5 BK218.out
        go_wp2
        repeat (go_quiet (fail); try go_wp2)
        go_ret
        exact ⟨Q6, Q19⟩
       rw [if_neg c101] at H
       have c101b0 : (t219.toList == ([103, 108, 111, 98, 97, 108, 46, 103, 101, 116] : List UInt8)) = false := beq_eq_false_iff_ne.mpr c101
       have c101b1 : (t219.toList != ([103, 108, 111, 98, 97, 108, 46, 103, 101, 116] : List UInt8)) = true := bne_iff_ne.mpr c101
       by_cases c104 : t219.toList = ([103, 108, 111, 98, 97, 108, 46, 115, 101, 116] : List UInt8)
       ·rw [if_pos c104] at H
        have c104b0 : (t219.toList == ([103, 108, 111, 98, 97, 108, 46, 115, 101, 116] : List UInt8)) = true := beq_iff_eq.mpr c104
        have c104b1 : (t219.toList != ([103, 108, 111, 98, 97, 108, 46, 115, 101, 116] : List UInt8)) = false := bne_eq_false_iff_eq.mpr c104
        clear c104
        obtain rfl := Option.some.inj H
        have hnb105 := NB218_217.out
        have hnc105 := NB217_218.out
        have ⟨hcz106_0, hcz106_1, hcz106_2, hcz106_3, hcz106_4, hfz106_0, hfz106_1, hfz106_2, hfz106_3, hfz106_4⟩ := blk5 BK218.out
        go_wp2
        repeat (go_quiet (fail); try go_wp2)
        go_ret
        exact ⟨Q6, Q19⟩
       rw [if_neg c104] at H
       have c104b0 : (t219.toList == ([103, 108, 111, 98, 97, 108, 46, 115, 101, 116] : List UInt8)) = false := beq_eq_false_iff_ne.mpr c104
       have c104b1 : (t219.toList != ([103, 108, 111, 98, 97, 108, 46, 115, 101, 116] : List UInt8)) = true := bne_iff_ne.mpr c104
       by_cases c107 : t219.toList = ([99, 97, 108, 108] : List UInt8)
       ·rw [if_pos c107] at H
        have c107b0 : (t219.toList == ([99, 97, 108, 108] : List UInt8)) = true := beq_iff_eq.mpr c107
        have c107b1 : (t219.toList != ([99, 97, 108, 108] : List UInt8)) = false := bne_eq_false_iff_eq.mpr c107
        clear c107
        obtain rfl := Option.some.inj H
        have hnb108 := NB218_217.out
        have hnc108 := NB217_218.out
        have ⟨hcz109_0, hcz109_1, hcz109_2, hcz109_3, hcz109_4, hfz109_0, hfz109_1, hfz109_2, hfz109_3, hfz109_4⟩ := blk5 BK218.out
        go_wp2
        repeat (go_quiet (fail); try go_wp2)
        go_ret
        exact ⟨Q6, Q19⟩
       rw [if_neg c107] at H
       have c107b0 : (t219.toList == ([99, 97, 108, 108] : List UInt8)) = false := beq_eq_false_iff_ne.mpr c107
       have c107b1 : (t219.toList != ([99, 97, 108, 108] : List UInt8)) = true := bne_iff_ne.mpr c107
       by_cases c110 : t219.toList = ([99, 97, 108, 108, 95, 105, 110, 100, 105, 114, 101, 99, 116] : List UInt8)
       ·rw [if_pos c110] at H
        have c110b0 : (t219.toList == ([99, 97, 108, 108, 95, 105, 110, 100, 105, 114, 101, 99, 116] : List UInt8)) = true := beq_iff_eq.mpr c110
        have c110b1 : (t219.toList != ([99, 97, 108, 108, 95, 105, 110, 100, 105, 114, 101, 99, 116] : List UInt8)) = false := bne_eq_false_iff_eq.mpr c110
        clear c110
        obtain rfl := Option.some.inj H
        have hnb111 := NB218_217.out
        have hnc111 := NB217_218.out
        have ⟨hcz112_0, hcz112_1, hcz112_2, hcz112_3, hcz112_4, hfz112_0, hfz112_1, hfz112_2, hfz112_3, hfz112_4⟩ := blk5 BK218.out
        go_wp2
        repeat (go_quiet (fail); try go_wp2)
        go_ret
        exact ⟨Q6, Q19⟩
       rw [if_neg c110] at H
       have c110b0 : (t219.toList == ([99, 97, 108, 108, 95, 105, 110, 100, 105, 114, 101, 99, 116] : List UInt8)) = false := beq_eq_false_iff_ne.mpr c110
       have c110b1 : (t219.toList != ([99, 97, 108, 108, 95, 105, 110, 100, 105, 114, 101, 99, 116] : List UInt8)) = true := bne_iff_ne.mpr c110
       by_cases c113 : t219.toList = ([99, 111, 110, 115, 116] : List UInt8)
       ·rw [if_pos c113] at H
        have c113b0 : (t219.toList == ([99, 111, 110, 115, 116] : List UInt8)) = true := beq_iff_eq.mpr c113
        have c113b1 : (t219.toList != ([99, 111, 110, 115, 116] : List UInt8)) = false := bne_eq_false_iff_eq.mpr c113
        clear c113
        obtain rfl := Option.some.inj H
        go_wp2
        repeat (go_quiet (fail); try go_wp2)
        go_ret
        exact ⟨Q6, Q19⟩
       rw [if_neg c113] at H
       have c113b0 : (t219.toList == ([99, 111, 110, 115, 116] : List UInt8)) = false := beq_eq_false_iff_ne.mpr c113
       have c113b1 : (t219.toList != ([99, 111, 110, 115, 116] : List UInt8)) = true := bne_iff_ne.mpr c113
       obtain rfl := Option.some.inj H
       have hnb114 := NB218_217.out
       have hnc114 := NB217_218.out
       have ⟨hcz115_0, hcz115_1, hcz115_2, hcz115_3, hcz115_4, hfz115_0, hfz115_1, hfz115_2, hfz115_3, hfz115_4⟩ := blk5 BK218.out
       go_wp2
       repeat (go_quiet (fail); try go_wp2)
       go_ret
       exact ⟨Q6, Q19⟩
def mandrelref11_Ends.f (a0 : Int) : Option (Bool) := if a0 = 193 then (some true) else (if a0 = 194 then (some true) else (if a0 = 195 then (some true) else (if a0 = 15 then (some true) else (some (a0 == 0)))))
set_option maxHeartbeats 8000000 in
set_option maxRecDepth 100000 in
theorem mandrelref11_Ends.calls (a0 : Int) (r : Bool) (w : World) (hG : GG [] w) (h : mandrelref11_Ends.f a0 = some r) :
  Calls Tryz.prog 35 #[.int .u8 a0] w fun e w' => e = .returned (.bool r) ∧ Drawn0 w w' := by
 have HG := Aside0.mk hG
 clear hG
 have H : (if a0 = 193 then (some true) else (if a0 = 194 then (some true) else (if a0 = 195 then (some true) else (if a0 = 15 then (some true) else (some (a0 == 0)))))) = some r := h
 clear h
 by_cases c2 : a0 = 193
 ·rw [if_pos c2] at H
  have c2b0 : (a0 == 193) = true := beq_iff_eq.mpr c2
  have c2b1 : (a0 != 193) = false := bne_eq_false_iff_eq.mpr c2
  clear c2
  obtain rfl := Option.some.inj H
  go_enter Tryz.func35, Tryz.ntmps35
  go_wp2
  go_ret
  exact ⟨Q3, Q29⟩
 rw [if_neg c2] at H
 have c2b0 : (a0 == 193) = false := beq_eq_false_iff_ne.mpr c2
 have c2b1 : (a0 != 193) = true := bne_iff_ne.mpr c2
 by_cases c3 : a0 = 194
 ·rw [if_pos c3] at H
  have c3b0 : (a0 == 194) = true := beq_iff_eq.mpr c3
  have c3b1 : (a0 != 194) = false := bne_eq_false_iff_eq.mpr c3
  clear c3
  obtain rfl := Option.some.inj H
  go_enter Tryz.func35, Tryz.ntmps35
  go_wp2
  go_ret
  exact ⟨Q3, Q29⟩
 rw [if_neg c3] at H
 have c3b0 : (a0 == 194) = false := beq_eq_false_iff_ne.mpr c3
 have c3b1 : (a0 != 194) = true := bne_iff_ne.mpr c3
 by_cases c4 : a0 = 195
 ·rw [if_pos c4] at H
  have c4b0 : (a0 == 195) = true := beq_iff_eq.mpr c4
  have c4b1 : (a0 != 195) = false := bne_eq_false_iff_eq.mpr c4
  clear c4
  obtain rfl := Option.some.inj H
  go_enter Tryz.func35, Tryz.ntmps35
  go_wp2
  go_ret
  exact ⟨Q3, Q29⟩
 rw [if_neg c4] at H
 have c4b0 : (a0 == 195) = false := beq_eq_false_iff_ne.mpr c4
 have c4b1 : (a0 != 195) = true := bne_iff_ne.mpr c4
 by_cases c5 : a0 = 15
 ·rw [if_pos c5] at H
  have c5b0 : (a0 == 15) = true := beq_iff_eq.mpr c5
  have c5b1 : (a0 != 15) = false := bne_eq_false_iff_eq.mpr c5
  clear c5
  obtain rfl := Option.some.inj H
  go_enter Tryz.func35, Tryz.ntmps35
  go_wp2
  go_ret
  exact ⟨Q3, Q29⟩
 rw [if_neg c5] at H
 have c5b0 : (a0 == 15) = false := beq_eq_false_iff_ne.mpr c5
 have c5b1 : (a0 != 15) = true := bne_iff_ne.mpr c5
 obtain rfl := Option.some.inj H
 go_enter Tryz.func35, Tryz.ntmps35
 go_wp2
 go_ret
 exact ⟨Q3, Q29⟩
end Go.Proofs.YthgkeehpoilgaaaGreatDoor.Hw
end

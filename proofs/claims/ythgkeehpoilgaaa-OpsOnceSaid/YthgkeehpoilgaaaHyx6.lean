-- WRITTEN BY hyb.py (a program of this work's own) out of the translation, by the kit's print. Not trusted: Lean checks it.
import Derived.Test.YthgkeehpoilgaaaHyx0
import Derived.Test.YthgkeehpoilgaaaHyx4
import Derived.Test.YthgkeehpoilgaaaHyHOpsA
import Derived.Test.YthgkeehpoilgaaaHyHOpsB
import Derived.Test.YthgkeehpoilgaaaHyHOpsC
namespace Go.Proofs.Ythgkeehpoilgaaa.Hy
open Go.RowKit Go.Proofs.YthgkeehpoilgaaaW.PrintWords Go.Proofs.YthgkeehpoilgaaaW.PrintLast Go.Proofs.YthgkeehpoilgaaaW.PrintMore
attribute [local go_sem] max2_int min2_int max_two min_two max_three min_three max_four min_four   -- for this text's walks alone
set_option linter.unusedVariables false
set_option linter.unusedSimpArgs false

/-! ### mandrellaw04_OpsOnce: function 4 -/
mutual
def mandrellaw04_OpsOnce.j0 : Nat → Bool → Option (Bool)
  | 0, _ => none
  | k + 1, x34 => if x34 = true then (some false) else (mandrellaw04_OpsOnce.l0 k 0 0)
def mandrellaw04_OpsOnce.l0 : Nat → Int → Int → Option (Bool)
  | 0, _, _ => none
  | k + 1, x7, x8 => if x8 < 256 then ((ops_Name.f ((x8) % 256)).bind fun t201 => (if t201.toList = ([] : List UInt8) then (mandrellaw04_OpsOnce.l0 k x7 (wrap64 (x8 + 1))) else ((ops_Op.f t201).bind fun bt202 => (if bt202.2.isNone = true then (if (wrap64 (bt202.1)) = x8 then (mandrellaw04_OpsOnce.l0 k (wrap64 (x7 + 1)) (wrap64 (x8 + 1))) else (some false)) else (some false))))) else (if x7 = 102 then ((mandrellaw04_sure.f k).bind fun t200 => (some t200)) else (some false))
end
def mandrellaw04_OpsOnce.f (k : Nat) (a0 : Int) (a1 : Int) : Option (Bool) := (ops_Name.f a0).bind fun t197 => ((ops_Name.f a1).bind fun t198 => (if t197.toList = ([] : List UInt8) then (mandrellaw04_OpsOnce.j0 k false) else (if ((t197.toList == t198.toList) != (a0 == a1)) = true then (mandrellaw04_OpsOnce.j0 k true) else ((ops_Float.f a0).bind fun t199 => (mandrellaw04_OpsOnce.j0 k t199)))))
theorem mandrellaw04_OpsOnce.mono_l : ∀ k, (∀ y0, LeO (mandrellaw04_OpsOnce.j0 k y0) (mandrellaw04_OpsOnce.j0 (k + 1) y0)) ∧ (∀ y0 y1, LeO (mandrellaw04_OpsOnce.l0 k y0 y1) (mandrellaw04_OpsOnce.l0 (k + 1) y0 y1))
  | 0 => ⟨fun _ r h => by simp [mandrellaw04_OpsOnce.j0] at h, fun _ _ r h => by simp [mandrellaw04_OpsOnce.l0] at h⟩
  | k + 1 => by
    obtain ⟨ih0, ih1⟩ := mandrellaw04_OpsOnce.mono_l k
    refine ⟨?_, ?_⟩
    · intro y0
      unfold mandrellaw04_OpsOnce.j0
      repeat' first
      | (with_reducible exact ih0 _)
      | (with_reducible exact ih1 _ _)
      | (with_reducible exact mandrellaw04_sure.mono _)
      | (with_reducible exact LeO.refl _)
      | (with_reducible exact LeO.none _)
      | (with_reducible refine LeO.ite ?_ ?_)
      | (with_reducible refine LeO.bind ?_ (fun _ => ?_))
      | exact ih0 _
      | exact ih1 _ _
      | exact mandrellaw04_sure.mono _
      | exact LeO.none _
      | refine LeO.ite ?_ ?_
      | refine LeO.bind ?_ (fun _ => ?_)
    · intro y0 y1
      unfold mandrellaw04_OpsOnce.l0
      repeat' first
      | (with_reducible exact ih0 _)
      | (with_reducible exact ih1 _ _)
      | (with_reducible exact mandrellaw04_sure.mono _)
      | (with_reducible exact LeO.refl _)
      | (with_reducible exact LeO.none _)
      | (with_reducible refine LeO.ite ?_ ?_)
      | (with_reducible refine LeO.bind ?_ (fun _ => ?_))
      | exact ih0 _
      | exact ih1 _ _
      | exact mandrellaw04_sure.mono _
      | exact LeO.none _
      | refine LeO.ite ?_ ?_
      | refine LeO.bind ?_ (fun _ => ?_)
theorem mandrellaw04_OpsOnce.mono : ∀ a0 a1 k, LeO (mandrellaw04_OpsOnce.f k a0 a1) (mandrellaw04_OpsOnce.f (k + 1) a0 a1) := by
  intro a0 a1 k
  obtain ⟨ih0, ih1⟩ := mandrellaw04_OpsOnce.mono_l k
  unfold mandrellaw04_OpsOnce.f
  repeat' first
      | (with_reducible exact ih0 _)
      | (with_reducible exact ih1 _ _)
      | (with_reducible exact mandrellaw04_sure.mono _)
      | (with_reducible exact LeO.refl _)
      | (with_reducible exact LeO.none _)
      | (with_reducible refine LeO.ite ?_ ?_)
      | (with_reducible refine LeO.bind ?_ (fun _ => ?_))
      | exact ih0 _
      | exact ih1 _ _
      | exact mandrellaw04_sure.mono _
      | exact LeO.none _
      | refine LeO.ite ?_ ?_
      | refine LeO.bind ?_ (fun _ => ?_)
set_option maxHeartbeats 8000000 in
set_option maxRecDepth 100000 in
theorem mandrellaw04_OpsOnce.calls (k : Nat) (a0 : Int) (a1 : Int) (r : Bool) (w : World) (hG : GG [0] w) (h : mandrellaw04_OpsOnce.f k a0 a1 = some r) :
    Calls Try.prog 4 #[.int .u8 a0, .int .u8 a1] w fun e w' => e = .returned (.bool r) ∧ Below w.heap.size w w' := by
  have hu29 := Try.underlying29
  have hu40 := Try.underlying40
  have HB := Aside0.mk (Below.refl w.heap.size w)
  have HG := Aside0.mk hG
  clear hG
  have H : ((ops_Name.f a0).bind fun t197 => ((ops_Name.f a1).bind fun t198 => (if t197.toList = ([] : List UInt8) then (mandrellaw04_OpsOnce.j0 k false) else (if ((t197.toList == t198.toList) != (a0 == a1)) = true then (mandrellaw04_OpsOnce.j0 k true) else ((ops_Float.f a0).bind fun t199 => (mandrellaw04_OpsOnce.j0 k t199)))))) = some r := h
  clear h
  replace H := Option.bind_eq_some_iff.mp H
  obtain ⟨t197, A30, H⟩ := H
  replace H : ((ops_Name.f a1).bind fun t198 => (if t197.toList = ([] : List UInt8) then (mandrellaw04_OpsOnce.j0 k false) else (if ((t197.toList == t198.toList) != (a0 == a1)) = true then (mandrellaw04_OpsOnce.j0 k true) else ((ops_Float.f a0).bind fun t199 => (mandrellaw04_OpsOnce.j0 k t199))))) = some r := H
  have A3 := Aside0.mk A30
  clear A30
  replace H := Option.bind_eq_some_iff.mp H
  obtain ⟨t198, A40, H⟩ := H
  replace H : (if t197.toList = ([] : List UInt8) then (mandrellaw04_OpsOnce.j0 k false) else (if ((t197.toList == t198.toList) != (a0 == a1)) = true then (mandrellaw04_OpsOnce.j0 k true) else ((ops_Float.f a0).bind fun t199 => (mandrellaw04_OpsOnce.j0 k t199)))) = some r := H
  have A4 := Aside0.mk A40
  clear A40
  have HC5 := Aside0.mk H
  clear H
  go_enter Try.func4, Try.ntmps4
  go_upto_region 2 with (first | ((with_reducible refine gate_callee (f := 5) rfl ?_); refine goesL_ (some 13) rfl rfl Try.func5 (by kernel_rfl) rfl #[.int .u8 a0] rfl (by (try simp only [List.map_toArray, List.map_cons, List.map_nil]); first | done | rfl | (simp only [List.length_drop, List.length_take]; rfl)) ?_; (with_reducible refine (ops_Name.calls a0 t197 _ ?side1 A3.out).mono ?_); (case side1 => first | exact GG.sub HG.out (by decide) | exact GG.sub (GG.below (by repeat (first | (with_reducible first | exact HB.out | apply below_alloc | apply pw_below_drewN | apply below_drew1) | exact HB.out)) HG.out) (by decide) | exact GG.sub (GG.drawn (by assumption) HG.out) (by decide)); rintro e w6 ⟨rfl, hb⟩; refine ⟨_, rfl, ?_⟩; have n0_ := Aside0.mk (below_step (by repeat (first | (with_reducible first | exact HB.out | apply below_alloc | apply pw_below_drewN | apply below_drew1) | exact HB.out)) hb); clear HB; have HB := n0_; clear n0_; (try clear hb); (try clear hb2); (try clear hk); (try clear hi)) | ((with_reducible refine gate_callee (f := 5) rfl ?_); refine goesL_ (some 15) rfl rfl Try.func5 (by kernel_rfl) rfl #[.int .u8 a1] rfl (by (try simp only [List.map_toArray, List.map_cons, List.map_nil]); first | done | rfl | (simp only [List.length_drop, List.length_take]; rfl)) ?_; (with_reducible refine (ops_Name.calls a1 t198 _ ?side1 A4.out).mono ?_); (case side1 => first | exact GG.sub HG.out (by decide) | exact GG.sub (GG.below (by repeat (first | (with_reducible first | exact HB.out | apply below_alloc | apply pw_below_drewN | apply below_drew1) | exact HB.out)) HG.out) (by decide) | exact GG.sub (GG.drawn (by assumption) HG.out) (by decide)); rintro e w7 ⟨rfl, hb⟩; refine ⟨_, rfl, ?_⟩; have n0_ := Aside0.mk (below_step (by repeat (first | (with_reducible first | exact HB.out | apply below_alloc | apply pw_below_drewN | apply below_drew1) | exact HB.out)) hb); clear HB; have HB := n0_; clear n0_; (try clear hb); (try clear hb2); (try clear hk); (try clear hi)))
  (try simp only [Act.put, List.setIfInBounds_toArray, List.set_cons_zero, List.set_cons_succ])
  go_cut [34] (fun v34 wc => ∃ (kq : Nat) (x34_4 : Bool), v34 = .bool x34_4 ∧ Aside0 (mandrellaw04_OpsOnce.j0 kq x34_4 = some r) ∧ Aside0 (kq ≤ k) ∧ Aside0 (Below w.heap.size w wc))
  case first =>
    have H := HC5.out
    clear HC5
    by_cases c8 : t197.toList = ([] : List UInt8)
    · rw [if_pos c8] at H
      have c8b0 : (t197.toList == ([] : List UInt8)) = true := beq_iff_eq.mpr c8
      have c8b1 : (t197.toList != ([] : List UInt8)) = false := bne_eq_false_iff_eq.mpr c8
      clear c8
      (first | rw [c8b0] | (simp only [i64_w, i32_w]; rw [c8b0]) | skip)
      have H' := Aside0.mk H
      clear H
      go_wp2
      go_meet
      case rel => exact ⟨_, (false), (by first | rfl | (simp; done) | (simp [*]; done)), H', ⟨by first | omega | exact Nat.le_refl _⟩, ⟨by repeat (first | (with_reducible first | exact HB.out | apply below_alloc | apply pw_below_drewN | apply below_drew1) | exact HB.out)⟩⟩
    · rw [if_neg c8] at H
      have c8b0 : (t197.toList == ([] : List UInt8)) = false := beq_eq_false_iff_ne.mpr c8
      have c8b1 : (t197.toList != ([] : List UInt8)) = true := bne_iff_ne.mpr c8
      (first | rw [c8b0] | (simp only [i64_w, i32_w]; rw [c8b0]) | skip)
      by_cases c9 : ((t197.toList == t198.toList) != (a0 == a1)) = true
      · rw [if_pos c9] at H
        have c9b0 : ((t197.toList == t198.toList) != (a0 == a1)) = true := c9
        (try (have c9b1 : decide ((t197.toList == t198.toList) = (a0 == a1)) = false := by simpa using c9))
        (try (have c9b2 : ((t197.toList == t198.toList) == (a0 == a1)) = false := by simpa using c9))
        (try (have c9b3 : ¬ ((t197.toList == t198.toList) = (a0 == a1)) := by simpa using c9))
        clear c9
        have H' := Aside0.mk H
        clear H
        go_wp2
        go_meet
        case rel => exact ⟨_, (true), (by first | rfl | (simp; done) | (simp [*]; done)), H', ⟨by first | omega | exact Nat.le_refl _⟩, ⟨by repeat (first | (with_reducible first | exact HB.out | apply below_alloc | apply pw_below_drewN | apply below_drew1) | exact HB.out)⟩⟩
      · rw [if_neg c9] at H
        have c9b0 : ((t197.toList == t198.toList) != (a0 == a1)) = false := by simpa using c9
        (try (have c9b1 : decide ((t197.toList == t198.toList) = (a0 == a1)) = true := by simpa using c9))
        (try (have c9b2 : ((t197.toList == t198.toList) == (a0 == a1)) = true := by simpa using c9))
        clear c9
        replace H := Option.bind_eq_some_iff.mp H
        obtain ⟨t199, A100, H⟩ := H
        replace H : (mandrellaw04_OpsOnce.j0 k t199) = some r := H
        have A10 := Aside0.mk A100
        clear A100
        have H' := Aside0.mk H
        clear H
        go_wp2_with (first | (go_at_call 8; (with_reducible refine (ops_Float.calls a0 t199 _ ?side1 A10.out).mono ?_); (case side1 => first | exact GG.sub HG.out (by decide) | exact GG.sub (GG.below (by repeat (first | (with_reducible first | exact HB.out | apply below_alloc | apply pw_below_drewN | apply below_drew1) | exact HB.out)) HG.out) (by decide) | exact GG.sub (GG.drawn (by assumption) HG.out) (by decide)); rintro e w11 ⟨rfl, hb⟩; have n0_ := Aside0.mk (below_step (by repeat (first | (with_reducible first | exact HB.out | apply below_alloc | apply pw_below_drewN | apply below_drew1) | exact HB.out)) hb); clear HB; have HB := n0_; clear n0_; (try clear hb); (try clear hb2); (try clear hk); (try clear hi)))
        go_meet
        case rel => exact ⟨_, (t199), (by first | rfl | (simp; done) | (simp [*]; done)), H', ⟨by first | omega | exact Nat.le_refl _⟩, ⟨by repeat (first | (with_reducible first | exact HB.out | apply below_alloc | apply pw_below_drewN | apply below_drew1) | exact HB.out)⟩⟩
  case rest =>
    clear HC5
    try clear p2
    try clear c4
    try clear c5
    try clear c8
    try clear c8b0
    try clear c8b1
    try clear c9
    try clear c9b0
    try clear c9b1
    try clear c9b2
    obtain ⟨kq, x34_4, rfl, HA, HJ4, HB⟩ := hcut
    cases kq with
    | zero => exact absurd HA.out (by simp [mandrellaw04_OpsOnce.j0])
    | succ kj4 =>
      have H := HA.out
      clear HA
      simp only [mandrellaw04_OpsOnce.j0] at H
      by_cases c12 : x34_4 = true
      · subst c12
        have H1 : (some false) = some r := by rw [if_pos rfl] at H; exact H
        clear H
        have H := H1
        clear H1
        obtain rfl := Option.some.inj H
        go_wp2
        go_ret
        exact ⟨by first | rfl | (simp [errW_none, errW_some] <;> rfl) | (simp [*, errW_none, errW_some] <;> rfl), by repeat (first | (with_reducible first | exact HB.out | apply below_alloc | apply pw_below_drewN | apply below_drew1) | exact HB.out)⟩
      · replace c12 := Bool.eq_false_iff.mpr c12
        subst c12
        have H1 : (mandrellaw04_OpsOnce.l0 kj4 0 0) = some r := by rw [if_neg (show ¬ (false = true) by decide)] at H; exact H
        clear H
        have H := H1
        clear H1
        have H' := Aside0.mk H
        clear H
        go_wp2
        go_loopg [7, 8] kj4 (fun kq v7 v8 w' => ∃ (x7_2 : Int) (x8_2 : Int), v7 = .int .i64 x7_2 ∧ v8 = .int .i64 x8_2 ∧ Aside0 (mandrellaw04_OpsOnce.l0 kq x7_2 x8_2 = some r) ∧ Aside0 (kq ≤ kj4) ∧ Aside0 (Below w.heap.size w w'))
        case atStart => exact ⟨(0), (0), (by first | rfl | (simp; done) | (simp [*]; done)), (by first | rfl | (simp; done) | (simp [*]; done)), H', ⟨Nat.le_refl _⟩, ⟨by repeat (first | (with_reducible first | exact HB.out | apply below_alloc | apply pw_below_drewN | apply below_drew1) | exact HB.out)⟩⟩
        case round =>
          clear H'
          try clear c1
          try clear p2
          try clear c4
          try clear c5
          try clear c8
          try clear c8b0
          try clear c8b1
          try clear c9
          try clear c9b0
          try clear c9b1
          try clear c9b2
          try clear c12
          try clear p2
          obtain ⟨x7_2, x8_2, rfl, rfl, HA, HK2, HB⟩ := hrel
          cases gk with
          | zero => exact absurd HA.out (by simp [mandrellaw04_OpsOnce.l0])
          | succ k2 =>
            have H := HA.out
            clear HA
            simp only [mandrellaw04_OpsOnce.l0] at H
            by_cases c13 : x8_2 < 256
            · rw [if_pos c13] at H
              have c13b0 : decide (x8_2 < 256) = true := decide_eq_true c13
              clear c13
              replace H := Option.bind_eq_some_iff.mp H
              obtain ⟨t201, A140, H⟩ := H
              replace H : (if t201.toList = ([] : List UInt8) then (mandrellaw04_OpsOnce.l0 k2 x7_2 (wrap64 (x8_2 + 1))) else ((ops_Op.f t201).bind fun bt202 => (if bt202.2.isNone = true then (if (wrap64 (bt202.1)) = x8_2 then (mandrellaw04_OpsOnce.l0 k2 (wrap64 (x7_2 + 1)) (wrap64 (x8_2 + 1))) else (some false)) else (some false)))) = some r := H
              have A14 := Aside0.mk A140
              clear A140
              by_cases c15 : t201.toList = ([] : List UInt8)
              · rw [if_pos c15] at H
                have c15b0 : (t201.toList == ([] : List UInt8)) = true := beq_iff_eq.mpr c15
                have c15b1 : (t201.toList != ([] : List UInt8)) = false := bne_eq_false_iff_eq.mpr c15
                clear c15
                have H' := Aside0.mk H
                clear H
                go_wp2_with (first | ((with_reducible refine gate_callee (f := 5) rfl ?_); refine goesL_ (some 41) rfl rfl Try.func5 (by kernel_rfl) rfl #[.int .u8 ((x8_2) % 256)] rfl (by (try simp only [List.map_toArray, List.map_cons, List.map_nil]); first | done | rfl | (simp only [List.length_drop, List.length_take]; rfl)) ?_; (with_reducible refine (ops_Name.calls ((x8_2) % 256) t201 _ ?side1 A14.out).mono ?_); (case side1 => first | exact GG.sub HG.out (by decide) | exact GG.sub (GG.below (by repeat (first | (with_reducible first | exact HB.out | apply below_alloc | apply pw_below_drewN | apply below_drew1) | exact HB.out)) HG.out) (by decide) | exact GG.sub (GG.drawn (by assumption) HG.out) (by decide)); rintro e w16 ⟨rfl, hb⟩; refine ⟨_, rfl, ?_⟩; have n0_ := Aside0.mk (below_step (by repeat (first | (with_reducible first | exact HB.out | apply below_alloc | apply pw_below_drewN | apply below_drew1) | exact HB.out)) hb); clear HB; have HB := n0_; clear n0_; (try clear hb); (try clear hb2); (try clear hk); (try clear hi)))
                go_roundg k2
                case measure => have := HJ4.out; have := HK2.out; omega
                case rel => exact ⟨(x7_2), (wrap64 (x8_2 + 1)), (by first | rfl | (simp; done) | (simp [*]; done)), (by first | rfl | (simp; done) | (simp [*]; done)), H', ⟨by have := HJ4.out; have := HK2.out; omega⟩, ⟨by repeat (first | (with_reducible first | exact HB.out | apply below_alloc | apply pw_below_drewN | apply below_drew1) | exact HB.out)⟩⟩
              · rw [if_neg c15] at H
                have c15b0 : (t201.toList == ([] : List UInt8)) = false := beq_eq_false_iff_ne.mpr c15
                have c15b1 : (t201.toList != ([] : List UInt8)) = true := bne_iff_ne.mpr c15
                replace H := Option.bind_eq_some_iff.mp H
                obtain ⟨⟨t202, t203⟩, A170, H⟩ := H
                replace H : (if t203.isNone = true then (if (wrap64 (t202)) = x8_2 then (mandrellaw04_OpsOnce.l0 k2 (wrap64 (x7_2 + 1)) (wrap64 (x8_2 + 1))) else (some false)) else (some false)) = some r := H
                have A17 := Aside0.mk A170
                clear A170
                rcases t203 with _ | q204
                · have H1 : (if (wrap64 (t202)) = x8_2 then (mandrellaw04_OpsOnce.l0 k2 (wrap64 (x7_2 + 1)) (wrap64 (x8_2 + 1))) else (some false)) = some r := by rw [if_pos (show (none : Option Int).isNone = true by rfl)] at H; exact H
                  clear H
                  have H := H1
                  clear H1
                  try simp only [errW_none, errW_some]
                  by_cases c18 : (wrap64 (t202)) = x8_2
                  · rw [if_pos c18] at H
                    have c18b0 : ((wrap64 (t202)) == x8_2) = true := beq_iff_eq.mpr c18
                    have c18b1 : ((wrap64 (t202)) != x8_2) = false := bne_eq_false_iff_eq.mpr c18
                    clear c18
                    have H' := Aside0.mk H
                    clear H
                    go_wp2_with (first | ((with_reducible refine gate_callee (f := 5) rfl ?_); refine goesL_ (some 41) rfl rfl Try.func5 (by kernel_rfl) rfl #[.int .u8 ((x8_2) % 256)] rfl (by (try simp only [List.map_toArray, List.map_cons, List.map_nil]); first | done | rfl | (simp only [List.length_drop, List.length_take]; rfl)) ?_; (with_reducible refine (ops_Name.calls ((x8_2) % 256) t201 _ ?side1 A14.out).mono ?_); (case side1 => first | exact GG.sub HG.out (by decide) | exact GG.sub (GG.below (by repeat (first | (with_reducible first | exact HB.out | apply below_alloc | apply pw_below_drewN | apply below_drew1) | exact HB.out)) HG.out) (by decide) | exact GG.sub (GG.drawn (by assumption) HG.out) (by decide)); rintro e w19 ⟨rfl, hb⟩; refine ⟨_, rfl, ?_⟩; have n0_ := Aside0.mk (below_step (by repeat (first | (with_reducible first | exact HB.out | apply below_alloc | apply pw_below_drewN | apply below_drew1) | exact HB.out)) hb); clear HB; have HB := n0_; clear n0_; (try clear hb); (try clear hb2); (try clear hk); (try clear hi)) | ((with_reducible refine gate_callee (f := 9) rfl ?_); refine goesL_ (some 48) rfl rfl Try.func9 (by kernel_rfl) rfl #[.string t201] rfl (by (try simp only [List.map_toArray, List.map_cons, List.map_nil]); first | done | rfl | (simp only [List.length_drop, List.length_take]; rfl)) ?_; (with_reducible refine (ops_Op.calls t201 t202 none _ ?side1 A17.out).mono ?_); (case side1 => first | exact GG.sub HG.out (by decide) | exact GG.sub (GG.below (by repeat (first | (with_reducible first | exact HB.out | apply below_alloc | apply pw_below_drewN | apply below_drew1) | exact HB.out)) HG.out) (by decide) | exact GG.sub (GG.drawn (by assumption) HG.out) (by decide)); rintro e w20 ⟨rfl, hb⟩; refine ⟨_, rfl, ?_⟩; have n0_ := Aside0.mk (below_step (by repeat (first | (with_reducible first | exact HB.out | apply below_alloc | apply pw_below_drewN | apply below_drew1) | exact HB.out)) hb); clear HB; have HB := n0_; clear n0_; (try clear hb); (try clear hb2); (try clear hk); (try clear hi); (try simp only [errW_none, errW_some])))
                    go_roundg k2
                    case measure => have := HJ4.out; have := HK2.out; omega
                    case rel => exact ⟨(wrap64 (x7_2 + 1)), (wrap64 (x8_2 + 1)), (by first | rfl | (simp; done) | (simp [*]; done)), (by first | rfl | (simp; done) | (simp [*]; done)), H', ⟨by have := HJ4.out; have := HK2.out; omega⟩, ⟨by repeat (first | (with_reducible first | exact HB.out | apply below_alloc | apply pw_below_drewN | apply below_drew1) | exact HB.out)⟩⟩
                  · rw [if_neg c18] at H
                    have c18b0 : ((wrap64 (t202)) == x8_2) = false := beq_eq_false_iff_ne.mpr c18
                    have c18b1 : ((wrap64 (t202)) != x8_2) = true := bne_iff_ne.mpr c18
                    obtain rfl := Option.some.inj H
                    go_wp2_with (first | ((with_reducible refine gate_callee (f := 5) rfl ?_); refine goesL_ (some 41) rfl rfl Try.func5 (by kernel_rfl) rfl #[.int .u8 ((x8_2) % 256)] rfl (by (try simp only [List.map_toArray, List.map_cons, List.map_nil]); first | done | rfl | (simp only [List.length_drop, List.length_take]; rfl)) ?_; (with_reducible refine (ops_Name.calls ((x8_2) % 256) t201 _ ?side1 A14.out).mono ?_); (case side1 => first | exact GG.sub HG.out (by decide) | exact GG.sub (GG.below (by repeat (first | (with_reducible first | exact HB.out | apply below_alloc | apply pw_below_drewN | apply below_drew1) | exact HB.out)) HG.out) (by decide) | exact GG.sub (GG.drawn (by assumption) HG.out) (by decide)); rintro e w21 ⟨rfl, hb⟩; refine ⟨_, rfl, ?_⟩; have n0_ := Aside0.mk (below_step (by repeat (first | (with_reducible first | exact HB.out | apply below_alloc | apply pw_below_drewN | apply below_drew1) | exact HB.out)) hb); clear HB; have HB := n0_; clear n0_; (try clear hb); (try clear hb2); (try clear hk); (try clear hi)) | ((with_reducible refine gate_callee (f := 9) rfl ?_); refine goesL_ (some 48) rfl rfl Try.func9 (by kernel_rfl) rfl #[.string t201] rfl (by (try simp only [List.map_toArray, List.map_cons, List.map_nil]); first | done | rfl | (simp only [List.length_drop, List.length_take]; rfl)) ?_; (with_reducible refine (ops_Op.calls t201 t202 none _ ?side1 A17.out).mono ?_); (case side1 => first | exact GG.sub HG.out (by decide) | exact GG.sub (GG.below (by repeat (first | (with_reducible first | exact HB.out | apply below_alloc | apply pw_below_drewN | apply below_drew1) | exact HB.out)) HG.out) (by decide) | exact GG.sub (GG.drawn (by assumption) HG.out) (by decide)); rintro e w22 ⟨rfl, hb⟩; refine ⟨_, rfl, ?_⟩; have n0_ := Aside0.mk (below_step (by repeat (first | (with_reducible first | exact HB.out | apply below_alloc | apply pw_below_drewN | apply below_drew1) | exact HB.out)) hb); clear HB; have HB := n0_; clear n0_; (try clear hb); (try clear hb2); (try clear hk); (try clear hi); (try simp only [errW_none, errW_some])))
                    go_ret
                    exact ⟨by first | rfl | (simp [errW_none, errW_some] <;> rfl) | (simp [*, errW_none, errW_some] <;> rfl), by repeat (first | (with_reducible first | exact HB.out | apply below_alloc | apply pw_below_drewN | apply below_drew1) | exact HB.out)⟩
                · have H1 : (some false) = some r := by rw [if_neg (show ¬ (some q204).isNone = true by simp)] at H; exact H
                  clear H
                  have H := H1
                  clear H1
                  try simp only [errW_none, errW_some]
                  obtain rfl := Option.some.inj H
                  go_wp2_with (first | ((with_reducible refine gate_callee (f := 5) rfl ?_); refine goesL_ (some 41) rfl rfl Try.func5 (by kernel_rfl) rfl #[.int .u8 ((x8_2) % 256)] rfl (by (try simp only [List.map_toArray, List.map_cons, List.map_nil]); first | done | rfl | (simp only [List.length_drop, List.length_take]; rfl)) ?_; (with_reducible refine (ops_Name.calls ((x8_2) % 256) t201 _ ?side1 A14.out).mono ?_); (case side1 => first | exact GG.sub HG.out (by decide) | exact GG.sub (GG.below (by repeat (first | (with_reducible first | exact HB.out | apply below_alloc | apply pw_below_drewN | apply below_drew1) | exact HB.out)) HG.out) (by decide) | exact GG.sub (GG.drawn (by assumption) HG.out) (by decide)); rintro e w23 ⟨rfl, hb⟩; refine ⟨_, rfl, ?_⟩; have n0_ := Aside0.mk (below_step (by repeat (first | (with_reducible first | exact HB.out | apply below_alloc | apply pw_below_drewN | apply below_drew1) | exact HB.out)) hb); clear HB; have HB := n0_; clear n0_; (try clear hb); (try clear hb2); (try clear hk); (try clear hi)) | ((with_reducible refine gate_callee (f := 9) rfl ?_); refine goesL_ (some 48) rfl rfl Try.func9 (by kernel_rfl) rfl #[.string t201] rfl (by (try simp only [List.map_toArray, List.map_cons, List.map_nil]); first | done | rfl | (simp only [List.length_drop, List.length_take]; rfl)) ?_; (with_reducible refine (ops_Op.calls t201 t202 (some q204) _ ?side1 A17.out).mono ?_); (case side1 => first | exact GG.sub HG.out (by decide) | exact GG.sub (GG.below (by repeat (first | (with_reducible first | exact HB.out | apply below_alloc | apply pw_below_drewN | apply below_drew1) | exact HB.out)) HG.out) (by decide) | exact GG.sub (GG.drawn (by assumption) HG.out) (by decide)); rintro e w24 ⟨rfl, hb⟩; refine ⟨_, rfl, ?_⟩; have n0_ := Aside0.mk (below_step (by repeat (first | (with_reducible first | exact HB.out | apply below_alloc | apply pw_below_drewN | apply below_drew1) | exact HB.out)) hb); clear HB; have HB := n0_; clear n0_; (try clear hb); (try clear hb2); (try clear hk); (try clear hi); (try simp only [errW_none, errW_some])))
                  go_ret
                  exact ⟨by first | rfl | (simp [errW_none, errW_some] <;> rfl) | (simp [*, errW_none, errW_some] <;> rfl), by repeat (first | (with_reducible first | exact HB.out | apply below_alloc | apply pw_below_drewN | apply below_drew1) | exact HB.out)⟩
            · rw [if_neg c13] at H
              have c13b0 : decide (x8_2 < 256) = false := decide_eq_false c13
              clear c13
              by_cases c25 : x7_2 = 102
              · rw [if_pos c25] at H
                have c25b0 : (x7_2 == 102) = true := beq_iff_eq.mpr c25
                have c25b1 : (x7_2 != 102) = false := bne_eq_false_iff_eq.mpr c25
                clear c25
                replace H := Option.bind_eq_some_iff.mp H
                obtain ⟨t200, A260, H⟩ := H
                replace H : (some t200) = some r := H
                have A26 := Aside0.mk A260
                clear A260
                obtain rfl := Option.some.inj H
                go_wp2_with (first | (go_at_call 7; (with_reducible refine (mandrellaw04_sure.calls k2  t200 _ ?side1 A26.out).mono ?_); (case side1 => first | exact HG.out | exact GG.below (by repeat (first | (with_reducible first | exact HB.out | apply below_alloc | apply pw_below_drewN | apply below_drew1) | exact HB.out)) HG.out | exact GG.drawn (by assumption) HG.out); rintro e w27 ⟨rfl, hb⟩; have n0_ := Aside0.mk (below_step (by repeat (first | (with_reducible first | exact HB.out | apply below_alloc | apply pw_below_drewN | apply below_drew1) | exact HB.out)) hb); clear HB; have HB := n0_; clear n0_; (try clear hb); (try clear hb2); (try clear hk); (try clear hi)))
                go_ret
                exact ⟨by first | rfl | (simp [errW_none, errW_some] <;> rfl) | (simp [*, errW_none, errW_some] <;> rfl), by repeat (first | (with_reducible first | exact HB.out | apply below_alloc | apply pw_below_drewN | apply below_drew1) | exact HB.out)⟩
              · rw [if_neg c25] at H
                have c25b0 : (x7_2 == 102) = false := beq_eq_false_iff_ne.mpr c25
                have c25b1 : (x7_2 != 102) = true := bne_iff_ne.mpr c25
                obtain rfl := Option.some.inj H
                go_wp2
                go_ret
                exact ⟨by first | rfl | (simp [errW_none, errW_some] <;> rfl) | (simp [*, errW_none, errW_some] <;> rfl), by repeat (first | (with_reducible first | exact HB.out | apply below_alloc | apply pw_below_drewN | apply below_drew1) | exact HB.out)⟩

/-- THE ONE PURE STATEMENT of mandrellaw04_OpsOnce: yours. -/
def mandrellaw04_OpsOnce.Pure : Prop := ∀ (a0 : Int) (a1 : Int), (Lit.int .u8 a0).wf = true → (Lit.int .u8 a1).wf = true → ∃ k, mandrellaw04_OpsOnce.f k a0 a1 = some true
theorem mandrellaw04_OpsOnce.walk (P : mandrellaw04_OpsOnce.Pure) (a0 : Int) (a1 : Int) (w : World) (w0 : (Lit.int .u8 a0).wf = true) (w1 : (Lit.int .u8 a1).wf = true) (hG : GG [0] w) :
    Calls Try.prog 4 #[.int .u8 a0, .int .u8 a1] w fun e w' => e = .returned (.bool true) ∧ Below w.heap.size w w' := by
  obtain ⟨k, h⟩ := P a0 a1 w0 w1
  refine (mandrellaw04_OpsOnce.calls k a0 a1 true w hG h).mono ?_
  rintro e w' ⟨rfl, hd⟩
  exact ⟨rfl, hd⟩

end Go.Proofs.Ythgkeehpoilgaaa.Hy

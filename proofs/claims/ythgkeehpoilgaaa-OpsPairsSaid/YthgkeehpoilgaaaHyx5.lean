-- WRITTEN BY hyb.py (a program of this work's own) out of the translation, by the kit's print. Not trusted: Lean checks it.
import Derived.Test.YthgkeehpoilgaaaHyx0
import Derived.Test.YthgkeehpoilgaaaHyx3
import Derived.Test.YthgkeehpoilgaaaHyx4
import Derived.Test.YthgkeehpoilgaaaHyHOpsA
namespace Go.Proofs.Ythgkeehpoilgaaa.Hy
open Go.RowKit Go.Proofs.YthgkeehpoilgaaaW.PrintWords Go.Proofs.YthgkeehpoilgaaaW.PrintLast Go.Proofs.YthgkeehpoilgaaaW.PrintMore
attribute [local go_sem] max2_int min2_int max_two min_two max_three min_three max_four min_four   -- for this text's walks alone
set_option linter.unusedVariables false
set_option linter.unusedSimpArgs false

/-! ### mandrellaw04_OpsPairs: function 3 -/
mutual
def mandrellaw04_OpsPairs.j0 : Nat → Int → Int → Int → Option (Bool)
  | 0, _, _, _ => none
  | k + 1, x3, x4, x5 => (ops_Name.f x4).bind fun t177 => ((ops_Name.f x5).bind fun t178 => ((ops_Sign.f k x4).bind fun bt179 => ((ops_Sign.f k x5).bind fun bt185 => (if bt179.2.2.isNone = true then (if bt185.2.2.isNone = true then (if (t177.size : Int) < 5 then (mandrellaw04_OpsPairs.j1 k x3 true bt179.1 bt179.2.1 bt185.1 bt185.2.1) else (if (t178.size : Int) = (t177.size : Int) then (if 0 ≤ 4 then (if 4 ≤ (t177.size : Int) then (if (t177.extract 0 4).toList = ([105, 51, 50, 46] : List UInt8) then (if 4 ≤ (t178.size : Int) then (if (t178.extract 0 4).toList = ([105, 54, 52, 46] : List UInt8) then (if (t177.extract 4 t177.size).toList = (t178.extract 4 t178.size).toList then (if (bt179.1.length : Int) = (bt185.1.length : Int) then (mandrellaw04_OpsPairs.j1 k x3 (decide ((bt179.1.length : Int) < 1)) bt179.1 bt179.2.1 bt185.1 bt185.2.1) else (mandrellaw04_OpsPairs.j1 k x3 true bt179.1 bt179.2.1 bt185.1 bt185.2.1)) else (mandrellaw04_OpsPairs.j1 k x3 true bt179.1 bt179.2.1 bt185.1 bt185.2.1)) else (mandrellaw04_OpsPairs.j1 k x3 true bt179.1 bt179.2.1 bt185.1 bt185.2.1)) else (none)) else (mandrellaw04_OpsPairs.j1 k x3 true bt179.1 bt179.2.1 bt185.1 bt185.2.1)) else (none)) else (none)) else (mandrellaw04_OpsPairs.j1 k x3 true bt179.1 bt179.2.1 bt185.1 bt185.2.1))) else (mandrellaw04_OpsPairs.j1 k x3 true bt179.1 bt179.2.1 bt185.1 bt185.2.1)) else (mandrellaw04_OpsPairs.j1 k x3 true bt179.1 bt179.2.1 bt185.1 bt185.2.1)))))
def mandrellaw04_OpsPairs.j1 : Nat → Int → Bool → List Int → Int → List Int → Int → Option (Bool)
  | 0, _, _, _, _, _, _ => none
  | k + 1, x3, x97, x185000, x185001, x191000, x191001 => if x97 = true then (some false) else (mandrellaw04_OpsPairs.l0 k x3 0 x185000 x185001 x191000 x191001)
def mandrellaw04_OpsPairs.l0 : Nat → Int → Int → List Int → Int → List Int → Int → Option (Bool)
  | 0, _, _, _, _, _, _ => none
  | k + 1, x3, x12, x185000, x185001, x191000, x191001 => if x12 < (x185000.length : Int) then (if 0 ≤ x12 then (if (rd x185000 x12) = 127 then (if x12 < (x191000.length : Int) then (if (rd x191000 x12) = 126 then (mandrellaw04_OpsPairs.l0 k x3 (wrap64 (x12 + 1)) x185000 x185001 x191000 x191001) else (some false)) else (none)) else (some false)) else (none)) else (if x3 ≤ 10 then (if x185001 = 127 then (if x191001 = 127 then ((mandrellaw04_sure.f k).bind fun t195 => (some t195)) else (some false)) else (some false)) else (if x185001 = 127 then (if x191001 = 126 then ((mandrellaw04_sure.f k).bind fun t196 => (some t196)) else (some false)) else (some false)))
end
def mandrellaw04_OpsPairs.f (k : Nat) (a0 : Int) : Option (Bool) := if (wrap64 (Int.tmod (IntKind.u64.wrap (a0)) 29)) > 10 then (mandrellaw04_OpsPairs.j0 k (wrap64 (Int.tmod (IntKind.u64.wrap (a0)) 29)) ((wrap64 ((wrap64 (103 + (wrap64 (Int.tmod (IntKind.u64.wrap (a0)) 29)))) - 11)) % 256) ((wrap64 ((wrap64 (121 + (wrap64 (Int.tmod (IntKind.u64.wrap (a0)) 29)))) - 11)) % 256)) else (mandrellaw04_OpsPairs.j0 k (wrap64 (Int.tmod (IntKind.u64.wrap (a0)) 29)) ((wrap64 (69 + (wrap64 (Int.tmod (IntKind.u64.wrap (a0)) 29)))) % 256) ((wrap64 (80 + (wrap64 (Int.tmod (IntKind.u64.wrap (a0)) 29)))) % 256))
theorem mandrellaw04_OpsPairs.mono_l : ∀ k, (∀ y0 y1 y2, LeO (mandrellaw04_OpsPairs.j0 k y0 y1 y2) (mandrellaw04_OpsPairs.j0 (k + 1) y0 y1 y2)) ∧ (∀ y0 y1 y2 y3 y4 y5, LeO (mandrellaw04_OpsPairs.j1 k y0 y1 y2 y3 y4 y5) (mandrellaw04_OpsPairs.j1 (k + 1) y0 y1 y2 y3 y4 y5)) ∧ (∀ y0 y1 y2 y3 y4 y5, LeO (mandrellaw04_OpsPairs.l0 k y0 y1 y2 y3 y4 y5) (mandrellaw04_OpsPairs.l0 (k + 1) y0 y1 y2 y3 y4 y5))
  | 0 => ⟨fun _ _ _ r h => by simp [mandrellaw04_OpsPairs.j0] at h, fun _ _ _ _ _ _ r h => by simp [mandrellaw04_OpsPairs.j1] at h, fun _ _ _ _ _ _ r h => by simp [mandrellaw04_OpsPairs.l0] at h⟩
  | k + 1 => by
    obtain ⟨ih0, ih1, ih2⟩ := mandrellaw04_OpsPairs.mono_l k
    refine ⟨?_, ?_, ?_⟩
    · intro y0 y1 y2
      unfold mandrellaw04_OpsPairs.j0
      repeat' first
      | (with_reducible exact ih0 _ _ _)
      | (with_reducible exact ih1 _ _ _ _ _ _)
      | (with_reducible exact ih2 _ _ _ _ _ _)
      | (with_reducible exact mandrellaw04_sure.mono _)
      | (with_reducible exact ops_Sign.mono _ _)
      | (with_reducible exact LeO.refl _)
      | (with_reducible exact LeO.none _)
      | (with_reducible refine LeO.ite ?_ ?_)
      | (with_reducible refine LeO.bind ?_ (fun _ => ?_))
      | exact ih0 _ _ _
      | exact ih1 _ _ _ _ _ _
      | exact ih2 _ _ _ _ _ _
      | exact mandrellaw04_sure.mono _
      | exact ops_Sign.mono _ _
      | exact LeO.none _
      | refine LeO.ite ?_ ?_
      | refine LeO.bind ?_ (fun _ => ?_)
    · intro y0 y1 y2 y3 y4 y5
      unfold mandrellaw04_OpsPairs.j1
      repeat' first
      | (with_reducible exact ih0 _ _ _)
      | (with_reducible exact ih1 _ _ _ _ _ _)
      | (with_reducible exact ih2 _ _ _ _ _ _)
      | (with_reducible exact mandrellaw04_sure.mono _)
      | (with_reducible exact ops_Sign.mono _ _)
      | (with_reducible exact LeO.refl _)
      | (with_reducible exact LeO.none _)
      | (with_reducible refine LeO.ite ?_ ?_)
      | (with_reducible refine LeO.bind ?_ (fun _ => ?_))
      | exact ih0 _ _ _
      | exact ih1 _ _ _ _ _ _
      | exact ih2 _ _ _ _ _ _
      | exact mandrellaw04_sure.mono _
      | exact ops_Sign.mono _ _
      | exact LeO.none _
      | refine LeO.ite ?_ ?_
      | refine LeO.bind ?_ (fun _ => ?_)
    · intro y0 y1 y2 y3 y4 y5
      unfold mandrellaw04_OpsPairs.l0
      repeat' first
      | (with_reducible exact ih0 _ _ _)
      | (with_reducible exact ih1 _ _ _ _ _ _)
      | (with_reducible exact ih2 _ _ _ _ _ _)
      | (with_reducible exact mandrellaw04_sure.mono _)
      | (with_reducible exact ops_Sign.mono _ _)
      | (with_reducible exact LeO.refl _)
      | (with_reducible exact LeO.none _)
      | (with_reducible refine LeO.ite ?_ ?_)
      | (with_reducible refine LeO.bind ?_ (fun _ => ?_))
      | exact ih0 _ _ _
      | exact ih1 _ _ _ _ _ _
      | exact ih2 _ _ _ _ _ _
      | exact mandrellaw04_sure.mono _
      | exact ops_Sign.mono _ _
      | exact LeO.none _
      | refine LeO.ite ?_ ?_
      | refine LeO.bind ?_ (fun _ => ?_)
theorem mandrellaw04_OpsPairs.mono : ∀ a0 k, LeO (mandrellaw04_OpsPairs.f k a0) (mandrellaw04_OpsPairs.f (k + 1) a0) := by
  intro a0 k
  obtain ⟨ih0, ih1, ih2⟩ := mandrellaw04_OpsPairs.mono_l k
  unfold mandrellaw04_OpsPairs.f
  repeat' first
      | (with_reducible exact ih0 _ _ _)
      | (with_reducible exact ih1 _ _ _ _ _ _)
      | (with_reducible exact ih2 _ _ _ _ _ _)
      | (with_reducible exact mandrellaw04_sure.mono _)
      | (with_reducible exact ops_Sign.mono _ _)
      | (with_reducible exact LeO.refl _)
      | (with_reducible exact LeO.none _)
      | (with_reducible refine LeO.ite ?_ ?_)
      | (with_reducible refine LeO.bind ?_ (fun _ => ?_))
      | exact ih0 _ _ _
      | exact ih1 _ _ _ _ _ _
      | exact ih2 _ _ _ _ _ _
      | exact mandrellaw04_sure.mono _
      | exact ops_Sign.mono _ _
      | exact LeO.none _
      | refine LeO.ite ?_ ?_
      | refine LeO.bind ?_ (fun _ => ?_)
set_option maxHeartbeats 8000000 in
set_option maxRecDepth 100000 in
theorem mandrellaw04_OpsPairs.calls (k : Nat) (a0 : Int) (r : Bool) (w : World) (hG : GG [0] w) (h : mandrellaw04_OpsPairs.f k a0 = some r) :
    Calls Try.prog 3 #[.int .i64 a0] w fun e w' => e = .returned (.bool r) ∧ Below w.heap.size w w' := by
  have hu27 := Try.underlying27
  have hu29 := Try.underlying29
  have hu40 := Try.underlying40
  have HB := Aside0.mk (Below.refl w.heap.size w)
  have HG := Aside0.mk hG
  clear hG
  have H : (if (wrap64 (Int.tmod (IntKind.u64.wrap (a0)) 29)) > 10 then (mandrellaw04_OpsPairs.j0 k (wrap64 (Int.tmod (IntKind.u64.wrap (a0)) 29)) ((wrap64 ((wrap64 (103 + (wrap64 (Int.tmod (IntKind.u64.wrap (a0)) 29)))) - 11)) % 256) ((wrap64 ((wrap64 (121 + (wrap64 (Int.tmod (IntKind.u64.wrap (a0)) 29)))) - 11)) % 256)) else (mandrellaw04_OpsPairs.j0 k (wrap64 (Int.tmod (IntKind.u64.wrap (a0)) 29)) ((wrap64 (69 + (wrap64 (Int.tmod (IntKind.u64.wrap (a0)) 29)))) % 256) ((wrap64 (80 + (wrap64 (Int.tmod (IntKind.u64.wrap (a0)) 29)))) % 256))) = some r := h
  clear h
  have HC2 := Aside0.mk H
  clear H
  go_enter Try.func3, Try.ntmps3
  go_upto_if 25 with (fail)
  repeat (go_quiet (fail); go_upto_if 25 with (fail))
  go_cut [4, 5] (fun v4 v5 wc => ∃ (kq : Nat) (x4_1 : Int) (x5_1 : Int), v4 = .int .u8 x4_1 ∧ v5 = .int .u8 x5_1 ∧ Aside0 (mandrellaw04_OpsPairs.j0 kq (wrap64 (Int.tmod (IntKind.u64.wrap (a0)) 29)) x4_1 x5_1 = some r) ∧ Aside0 (kq ≤ k) ∧ Aside0 (Below w.heap.size w wc))
  case first =>
    have H := HC2.out
    clear HC2
    by_cases c3 : (wrap64 (Int.tmod (IntKind.u64.wrap (a0)) 29)) > 10
    · rw [if_pos c3] at H
      have c3b0 : decide (10 < (wrap64 (Int.tmod (IntKind.u64.wrap (a0)) 29))) = true := decide_eq_true c3
      clear c3
      (first | rw [c3b0] | (simp only [i64_w, i32_w]; rw [c3b0]) | skip)
      have H' := Aside0.mk H
      clear H
      go_wp2
      repeat (go_quiet (fail); try go_wp2)
      go_meet
      case rel => exact ⟨_, ((wrap64 ((wrap64 (103 + (wrap64 (Int.tmod (IntKind.u64.wrap (a0)) 29)))) - 11)) % 256), ((wrap64 ((wrap64 (121 + (wrap64 (Int.tmod (IntKind.u64.wrap (a0)) 29)))) - 11)) % 256), (by first | rfl | (simp; done) | (simp [*]; done)), (by first | rfl | (simp; done) | (simp [*]; done)), H', ⟨by first | omega | exact Nat.le_refl _⟩, ⟨by repeat (first | (with_reducible first | exact HB.out | apply below_alloc | apply pw_below_drewN | apply below_drew1) | exact HB.out)⟩⟩
    · rw [if_neg c3] at H
      have c3b0 : decide (10 < (wrap64 (Int.tmod (IntKind.u64.wrap (a0)) 29))) = false := decide_eq_false c3
      clear c3
      (first | rw [c3b0] | (simp only [i64_w, i32_w]; rw [c3b0]) | skip)
      have H' := Aside0.mk H
      clear H
      go_wp2
      repeat (go_quiet (fail); try go_wp2)
      go_meet
      case rel => exact ⟨_, ((wrap64 (69 + (wrap64 (Int.tmod (IntKind.u64.wrap (a0)) 29)))) % 256), ((wrap64 (80 + (wrap64 (Int.tmod (IntKind.u64.wrap (a0)) 29)))) % 256), (by first | rfl | (simp; done) | (simp [*]; done)), (by first | rfl | (simp; done) | (simp [*]; done)), H', ⟨by first | omega | exact Nat.le_refl _⟩, ⟨by repeat (first | (with_reducible first | exact HB.out | apply below_alloc | apply pw_below_drewN | apply below_drew1) | exact HB.out)⟩⟩
  case rest =>
    clear HC2
    try clear p2
    try clear c3
    try clear c3b0
    obtain ⟨kq, x4_1, x5_1, rfl, rfl, HA, HJ1, HB⟩ := hcut
    cases kq with
    | zero => exact absurd HA.out (by simp [mandrellaw04_OpsPairs.j0])
    | succ kj1 =>
      have H := HA.out
      clear HA
      simp only [mandrellaw04_OpsPairs.j0] at H
      replace H := Option.bind_eq_some_iff.mp H
      obtain ⟨t177, A40, H⟩ := H
      replace H : ((ops_Name.f x5_1).bind fun t178 => ((ops_Sign.f kj1 x4_1).bind fun bt179 => ((ops_Sign.f kj1 x5_1).bind fun bt185 => (if bt179.2.2.isNone = true then (if bt185.2.2.isNone = true then (if (t177.size : Int) < 5 then (mandrellaw04_OpsPairs.j1 kj1 (wrap64 (Int.tmod (IntKind.u64.wrap (a0)) 29)) true bt179.1 bt179.2.1 bt185.1 bt185.2.1) else (if (t178.size : Int) = (t177.size : Int) then (if 0 ≤ 4 then (if 4 ≤ (t177.size : Int) then (if (t177.extract 0 4).toList = ([105, 51, 50, 46] : List UInt8) then (if 4 ≤ (t178.size : Int) then (if (t178.extract 0 4).toList = ([105, 54, 52, 46] : List UInt8) then (if (t177.extract 4 t177.size).toList = (t178.extract 4 t178.size).toList then (if (bt179.1.length : Int) = (bt185.1.length : Int) then (mandrellaw04_OpsPairs.j1 kj1 (wrap64 (Int.tmod (IntKind.u64.wrap (a0)) 29)) (decide ((bt179.1.length : Int) < 1)) bt179.1 bt179.2.1 bt185.1 bt185.2.1) else (mandrellaw04_OpsPairs.j1 kj1 (wrap64 (Int.tmod (IntKind.u64.wrap (a0)) 29)) true bt179.1 bt179.2.1 bt185.1 bt185.2.1)) else (mandrellaw04_OpsPairs.j1 kj1 (wrap64 (Int.tmod (IntKind.u64.wrap (a0)) 29)) true bt179.1 bt179.2.1 bt185.1 bt185.2.1)) else (mandrellaw04_OpsPairs.j1 kj1 (wrap64 (Int.tmod (IntKind.u64.wrap (a0)) 29)) true bt179.1 bt179.2.1 bt185.1 bt185.2.1)) else (none)) else (mandrellaw04_OpsPairs.j1 kj1 (wrap64 (Int.tmod (IntKind.u64.wrap (a0)) 29)) true bt179.1 bt179.2.1 bt185.1 bt185.2.1)) else (none)) else (none)) else (mandrellaw04_OpsPairs.j1 kj1 (wrap64 (Int.tmod (IntKind.u64.wrap (a0)) 29)) true bt179.1 bt179.2.1 bt185.1 bt185.2.1))) else (mandrellaw04_OpsPairs.j1 kj1 (wrap64 (Int.tmod (IntKind.u64.wrap (a0)) 29)) true bt179.1 bt179.2.1 bt185.1 bt185.2.1)) else (mandrellaw04_OpsPairs.j1 kj1 (wrap64 (Int.tmod (IntKind.u64.wrap (a0)) 29)) true bt179.1 bt179.2.1 bt185.1 bt185.2.1))))) = some r := H
      have A4 := Aside0.mk A40
      clear A40
      replace H := Option.bind_eq_some_iff.mp H
      obtain ⟨t178, A50, H⟩ := H
      replace H : ((ops_Sign.f kj1 x4_1).bind fun bt179 => ((ops_Sign.f kj1 x5_1).bind fun bt185 => (if bt179.2.2.isNone = true then (if bt185.2.2.isNone = true then (if (t177.size : Int) < 5 then (mandrellaw04_OpsPairs.j1 kj1 (wrap64 (Int.tmod (IntKind.u64.wrap (a0)) 29)) true bt179.1 bt179.2.1 bt185.1 bt185.2.1) else (if (t178.size : Int) = (t177.size : Int) then (if 0 ≤ 4 then (if 4 ≤ (t177.size : Int) then (if (t177.extract 0 4).toList = ([105, 51, 50, 46] : List UInt8) then (if 4 ≤ (t178.size : Int) then (if (t178.extract 0 4).toList = ([105, 54, 52, 46] : List UInt8) then (if (t177.extract 4 t177.size).toList = (t178.extract 4 t178.size).toList then (if (bt179.1.length : Int) = (bt185.1.length : Int) then (mandrellaw04_OpsPairs.j1 kj1 (wrap64 (Int.tmod (IntKind.u64.wrap (a0)) 29)) (decide ((bt179.1.length : Int) < 1)) bt179.1 bt179.2.1 bt185.1 bt185.2.1) else (mandrellaw04_OpsPairs.j1 kj1 (wrap64 (Int.tmod (IntKind.u64.wrap (a0)) 29)) true bt179.1 bt179.2.1 bt185.1 bt185.2.1)) else (mandrellaw04_OpsPairs.j1 kj1 (wrap64 (Int.tmod (IntKind.u64.wrap (a0)) 29)) true bt179.1 bt179.2.1 bt185.1 bt185.2.1)) else (mandrellaw04_OpsPairs.j1 kj1 (wrap64 (Int.tmod (IntKind.u64.wrap (a0)) 29)) true bt179.1 bt179.2.1 bt185.1 bt185.2.1)) else (none)) else (mandrellaw04_OpsPairs.j1 kj1 (wrap64 (Int.tmod (IntKind.u64.wrap (a0)) 29)) true bt179.1 bt179.2.1 bt185.1 bt185.2.1)) else (none)) else (none)) else (mandrellaw04_OpsPairs.j1 kj1 (wrap64 (Int.tmod (IntKind.u64.wrap (a0)) 29)) true bt179.1 bt179.2.1 bt185.1 bt185.2.1))) else (mandrellaw04_OpsPairs.j1 kj1 (wrap64 (Int.tmod (IntKind.u64.wrap (a0)) 29)) true bt179.1 bt179.2.1 bt185.1 bt185.2.1)) else (mandrellaw04_OpsPairs.j1 kj1 (wrap64 (Int.tmod (IntKind.u64.wrap (a0)) 29)) true bt179.1 bt179.2.1 bt185.1 bt185.2.1)))) = some r := H
      have A5 := Aside0.mk A50
      clear A50
      replace H := Option.bind_eq_some_iff.mp H
      obtain ⟨⟨t179, t182, t183⟩, A60, H⟩ := H
      replace H : ((ops_Sign.f kj1 x5_1).bind fun bt185 => (if t183.isNone = true then (if bt185.2.2.isNone = true then (if (t177.size : Int) < 5 then (mandrellaw04_OpsPairs.j1 kj1 (wrap64 (Int.tmod (IntKind.u64.wrap (a0)) 29)) true t179 t182 bt185.1 bt185.2.1) else (if (t178.size : Int) = (t177.size : Int) then (if 0 ≤ 4 then (if 4 ≤ (t177.size : Int) then (if (t177.extract 0 4).toList = ([105, 51, 50, 46] : List UInt8) then (if 4 ≤ (t178.size : Int) then (if (t178.extract 0 4).toList = ([105, 54, 52, 46] : List UInt8) then (if (t177.extract 4 t177.size).toList = (t178.extract 4 t178.size).toList then (if (t179.length : Int) = (bt185.1.length : Int) then (mandrellaw04_OpsPairs.j1 kj1 (wrap64 (Int.tmod (IntKind.u64.wrap (a0)) 29)) (decide ((t179.length : Int) < 1)) t179 t182 bt185.1 bt185.2.1) else (mandrellaw04_OpsPairs.j1 kj1 (wrap64 (Int.tmod (IntKind.u64.wrap (a0)) 29)) true t179 t182 bt185.1 bt185.2.1)) else (mandrellaw04_OpsPairs.j1 kj1 (wrap64 (Int.tmod (IntKind.u64.wrap (a0)) 29)) true t179 t182 bt185.1 bt185.2.1)) else (mandrellaw04_OpsPairs.j1 kj1 (wrap64 (Int.tmod (IntKind.u64.wrap (a0)) 29)) true t179 t182 bt185.1 bt185.2.1)) else (none)) else (mandrellaw04_OpsPairs.j1 kj1 (wrap64 (Int.tmod (IntKind.u64.wrap (a0)) 29)) true t179 t182 bt185.1 bt185.2.1)) else (none)) else (none)) else (mandrellaw04_OpsPairs.j1 kj1 (wrap64 (Int.tmod (IntKind.u64.wrap (a0)) 29)) true t179 t182 bt185.1 bt185.2.1))) else (mandrellaw04_OpsPairs.j1 kj1 (wrap64 (Int.tmod (IntKind.u64.wrap (a0)) 29)) true t179 t182 bt185.1 bt185.2.1)) else (mandrellaw04_OpsPairs.j1 kj1 (wrap64 (Int.tmod (IntKind.u64.wrap (a0)) 29)) true t179 t182 bt185.1 bt185.2.1))) = some r := H
      have A6 := Aside0.mk A60
      clear A60
      replace H := Option.bind_eq_some_iff.mp H
      obtain ⟨⟨t185, t188, t189⟩, A70, H⟩ := H
      replace H : (if t183.isNone = true then (if t189.isNone = true then (if (t177.size : Int) < 5 then (mandrellaw04_OpsPairs.j1 kj1 (wrap64 (Int.tmod (IntKind.u64.wrap (a0)) 29)) true t179 t182 t185 t188) else (if (t178.size : Int) = (t177.size : Int) then (if 0 ≤ 4 then (if 4 ≤ (t177.size : Int) then (if (t177.extract 0 4).toList = ([105, 51, 50, 46] : List UInt8) then (if 4 ≤ (t178.size : Int) then (if (t178.extract 0 4).toList = ([105, 54, 52, 46] : List UInt8) then (if (t177.extract 4 t177.size).toList = (t178.extract 4 t178.size).toList then (if (t179.length : Int) = (t185.length : Int) then (mandrellaw04_OpsPairs.j1 kj1 (wrap64 (Int.tmod (IntKind.u64.wrap (a0)) 29)) (decide ((t179.length : Int) < 1)) t179 t182 t185 t188) else (mandrellaw04_OpsPairs.j1 kj1 (wrap64 (Int.tmod (IntKind.u64.wrap (a0)) 29)) true t179 t182 t185 t188)) else (mandrellaw04_OpsPairs.j1 kj1 (wrap64 (Int.tmod (IntKind.u64.wrap (a0)) 29)) true t179 t182 t185 t188)) else (mandrellaw04_OpsPairs.j1 kj1 (wrap64 (Int.tmod (IntKind.u64.wrap (a0)) 29)) true t179 t182 t185 t188)) else (none)) else (mandrellaw04_OpsPairs.j1 kj1 (wrap64 (Int.tmod (IntKind.u64.wrap (a0)) 29)) true t179 t182 t185 t188)) else (none)) else (none)) else (mandrellaw04_OpsPairs.j1 kj1 (wrap64 (Int.tmod (IntKind.u64.wrap (a0)) 29)) true t179 t182 t185 t188))) else (mandrellaw04_OpsPairs.j1 kj1 (wrap64 (Int.tmod (IntKind.u64.wrap (a0)) 29)) true t179 t182 t185 t188)) else (mandrellaw04_OpsPairs.j1 kj1 (wrap64 (Int.tmod (IntKind.u64.wrap (a0)) 29)) true t179 t182 t185 t188)) = some r := H
      have A7 := Aside0.mk A70
      clear A70
      have HC8 := Aside0.mk H
      clear H
      go_upto_region 8 with (first | (go_at_call 5; (with_reducible refine (ops_Name.calls x4_1 t177 _ ?side1 A4.out).mono ?_); (case side1 => first | exact GG.sub HG.out (by decide) | exact GG.sub (GG.below (by repeat (first | (with_reducible first | exact HB.out | apply below_alloc | apply pw_below_drewN | apply below_drew1) | exact HB.out)) HG.out) (by decide) | exact GG.sub (GG.drawn (by assumption) HG.out) (by decide)); rintro e w9 ⟨rfl, hb⟩; have n0_ := Aside0.mk (below_step (by repeat (first | (with_reducible first | exact HB.out | apply below_alloc | apply pw_below_drewN | apply below_drew1) | exact HB.out)) hb); clear HB; have HB := n0_; clear n0_; (try clear hb); (try clear hb2); (try clear hk); (try clear hi)) | (go_at_call 5; (with_reducible refine (ops_Name.calls x5_1 t178 _ ?side1 A5.out).mono ?_); (case side1 => first | exact GG.sub HG.out (by decide) | exact GG.sub (GG.below (by repeat (first | (with_reducible first | exact HB.out | apply below_alloc | apply pw_below_drewN | apply below_drew1) | exact HB.out)) HG.out) (by decide) | exact GG.sub (GG.drawn (by assumption) HG.out) (by decide)); rintro e w10 ⟨rfl, hb⟩; have n0_ := Aside0.mk (below_step (by repeat (first | (with_reducible first | exact HB.out | apply below_alloc | apply pw_below_drewN | apply below_drew1) | exact HB.out)) hb); clear HB; have HB := n0_; clear n0_; (try clear hb); (try clear hb2); (try clear hk); (try clear hi)) | (go_at_call 6; (with_reducible refine (ops_Sign.calls kj1 x4_1 t179 t182 t183 _ ?side1 A6.out).mono ?_); (case side1 => first | exact HG.out | exact GG.below (by repeat (first | (with_reducible first | exact HB.out | apply below_alloc | apply pw_below_drewN | apply below_drew1) | exact HB.out)) HG.out | exact GG.drawn (by assumption) HG.out); rintro e w11 ⟨v180, rfl, ho0, hb⟩; have n0_ := Aside0.mk (Kd.R_lower ho0 (below_size (by repeat (first | (with_reducible first | exact HB.out | apply below_alloc | apply pw_below_drewN | apply below_drew1) | exact HB.out)))); have n1_ := Aside0.mk (below_step (by repeat (first | (with_reducible first | exact HB.out | apply below_alloc | apply pw_below_drewN | apply below_drew1) | exact HB.out)) hb); clear HB; have HO181 := n0_; have HB := n1_; clear n0_ n1_; (try clear hb); (try clear hb2); (try clear hk); (try clear hi); (try clear ho0); (try simp only [errW_none, errW_some])) | ((with_reducible refine gate_dst (N := 8) rfl ?_); (try (refine gate_guard (by rfl) ?_; dsimp only)); refine box_event ?hg (N := 8) ?hd (cs := #[.slice none 0 0, .int .u8 0]) (t := 27) ?hr ?_; (case hd => rfl); (case hg => rfl); (case hr => first | (go_simp; done) | (go_simp; rfl)); intro gb184 hg w12 hbox hb; have n0_ := Aside0.mk (Kd.R_below (by (with_reducible repeat (first | apply Kd.R_alloc | apply Kd.R_drewN | apply Kd.R_drew)); exact HO181.out) hb); have n1_ := Aside0.mk (below_step (by repeat (first | (with_reducible first | exact HB.out | apply below_alloc | apply pw_below_drewN | apply below_drew1) | exact HB.out)) hb); have n2_ := Aside0.mk (hbox); have n3_ := Aside0.mk ((by rw [hg]; exact (below_size (by repeat (first | (with_reducible first | exact HB.out | apply below_alloc | apply pw_below_drewN | apply below_drew1) | exact HB.out))) : w.heap.size ≤ gb184)); have n4_ := Aside0.mk ((by rw [hg]; exact (below_size (by repeat (first | (with_reducible first | exact HB.out | apply below_alloc | apply pw_below_drewN | apply below_drew1) | exact HB.out))) : w.heap.size ≤ gb184)); clear HO181; clear HB; have HO181 := n0_; have HB := n1_; have BK184 := n2_; have GW184 := n3_; have GE184 := n4_; clear n0_ n1_ n2_ n3_ n4_; clear hb hbox hg; obtain ⟨Ao13, co13, eo13⟩ := Kd.R_slice HO181.out; subst eo13; have hcz14_0 : w12.cell? ⟨gb184, 0, none⟩ = some (.slice none 0 0) := (blk_cell BK184.out 0).trans rfl; have hcz14_1 : w12.cell? ⟨gb184, 1, none⟩ = some (.int .u8 0) := (blk_cell BK184.out 1).trans rfl; have hfz14_0 := blk_frozen BK184.out 0; have hfz14_1 := blk_frozen BK184.out 1) | (go_at_call 6; (with_reducible refine (ops_Sign.calls kj1 x5_1 t185 t188 t189 _ ?side1 A7.out).mono ?_); (case side1 => first | exact HG.out | exact GG.below (by repeat (first | (with_reducible first | exact HB.out | apply below_alloc | apply pw_below_drewN | apply below_drew1 | refine below_set ?_ GE184.out) | exact HB.out)) HG.out | exact GG.drawn (by assumption) HG.out); rintro e w15 ⟨v186, rfl, ho0, hb⟩; have n0_ := Aside0.mk (Kd.R_elder' (by (with_reducible repeat (first | apply Kd.R_alloc | apply Kd.R_drewN | apply Kd.R_drew)); exact (Kd.R_mono (Kd.R_far (p := ⟨gb184, 1, none⟩) (Kd.R_far (p := ⟨gb184, 0, none⟩) (Kd.R_types HO181.out BK184.out (by decide)) (fun _ hk => hk.2) (.slice Ao13 t179.length co13)) (fun _ hk => hk.2) (.int .u8 t182)) (fun _ h_ => h_.1))) (Kd.R_base ho0) hb); have n1_ := Aside0.mk (Kd.R_lower (Kd.R_new' ho0 (Kd.R_lt (by (with_reducible repeat (first | apply Kd.R_alloc | apply Kd.R_drewN | apply Kd.R_drew)); exact (Kd.R_mono (Kd.R_far (p := ⟨gb184, 1, none⟩) (Kd.R_far (p := ⟨gb184, 0, none⟩) (Kd.R_types HO181.out BK184.out (by decide)) (fun _ hk => hk.2) (.slice Ao13 t179.length co13)) (fun _ hk => hk.2) (.int .u8 t182)) (fun _ h_ => h_.1))))) (below_size (by repeat (first | (with_reducible first | exact HB.out | apply below_alloc | apply pw_below_drewN | apply below_drew1 | refine below_set ?_ GE184.out) | exact HB.out)))); have n2_ := Aside0.mk (blk_below (g := gb184) (o := .cells #[.slice Ao13 t179.length co13, .int .u8 t182] 27 (0, 0)) (by (with_reducible repeat (first | refine blk_drewN ?_ _ | refine blk_drew ?_ | refine blk_alloc ?_ _)); refine blk_put (cs := #[.slice Ao13 t179.length co13, .int .u8 0]) ?_ 1 _ rfl; (with_reducible repeat (first | refine blk_drewN ?_ _ | refine blk_drew ?_ | refine blk_alloc ?_ _)); refine blk_put (cs := #[.slice none 0 0, .int .u8 0]) ?_ 0 _ rfl; (with_reducible repeat (first | refine blk_drewN ?_ _ | refine blk_drew ?_ | refine blk_alloc ?_ _)); exact BK184.out) hb); have n3_ := Aside0.mk (below_step (by repeat (first | (with_reducible first | exact HB.out | apply below_alloc | apply pw_below_drewN | apply below_drew1 | refine below_set ?_ GE184.out) | exact HB.out)) hb); clear HO181; clear BK184; clear HB; have HO181 := n0_; have HO187 := n1_; have BK184 := n2_; have HB := n3_; clear n0_ n1_ n2_ n3_; (try clear hb); (try clear hb2); (try clear hk); (try clear hi); (try clear ho0); (try simp only [errW_none, errW_some])) | ((with_reducible refine gate_dst (N := 10) rfl ?_); (try (refine gate_guard (by rfl) ?_; dsimp only)); refine box_event ?hg (N := 10) ?hd (cs := #[.slice none 0 0, .int .u8 0]) (t := 27) ?hr ?_; (case hd => rfl); (case hg => rfl); (case hr => first | (go_simp; done) | (go_simp; rfl)); intro gb190 hg w16 hbox hb; have n0_ := Aside0.mk (Kd.R_below (by (with_reducible repeat (first | apply Kd.R_alloc | apply Kd.R_drewN | apply Kd.R_drew)); exact HO181.out) hb); have n1_ := Aside0.mk (Kd.R_below (by (with_reducible repeat (first | apply Kd.R_alloc | apply Kd.R_drewN | apply Kd.R_drew)); exact HO187.out) hb); have n2_ := Aside0.mk (blk_below (g := gb184) (o := .cells #[.slice Ao13 t179.length co13, .int .u8 t182] 27 (0, 0)) (by (with_reducible repeat (first | refine blk_drewN ?_ _ | refine blk_drew ?_ | refine blk_alloc ?_ _)); exact BK184.out) hb); have n3_ := Aside0.mk (below_step (by repeat (first | (with_reducible first | exact HB.out | apply below_alloc | apply pw_below_drewN | apply below_drew1 | refine below_set ?_ GE184.out) | exact HB.out)) hb); have n4_ := Aside0.mk (hbox); have n5_ := Aside0.mk ((by rw [hg]; exact (below_size (by repeat (first | (with_reducible first | exact HB.out | apply below_alloc | apply pw_below_drewN | apply below_drew1 | refine below_set ?_ GE184.out) | exact HB.out))) : w.heap.size ≤ gb190)); have n6_ := Aside0.mk ((by rw [hg]; exact (below_size (by repeat (first | (with_reducible first | exact HB.out | apply below_alloc | apply pw_below_drewN | apply below_drew1 | refine below_set ?_ GE184.out) | exact HB.out))) : w.heap.size ≤ gb190)); have n7_ := Aside0.mk ((by rw [hg]; exact Nat.ne_of_lt (blk_lt (g := gb184) (o := .cells #[.slice Ao13 t179.length co13, .int .u8 t182] 27 (0, 0)) (by (with_reducible repeat (first | refine blk_drewN ?_ _ | refine blk_drew ?_ | refine blk_alloc ?_ _)); exact BK184.out)) : gb184 ≠ gb190)); have n8_ := Aside0.mk ((by rw [hg]; exact Nat.ne_of_gt (blk_lt (g := gb184) (o := .cells #[.slice Ao13 t179.length co13, .int .u8 t182] 27 (0, 0)) (by (with_reducible repeat (first | refine blk_drewN ?_ _ | refine blk_drew ?_ | refine blk_alloc ?_ _)); exact BK184.out)) : gb190 ≠ gb184)); clear HO181; clear HO187; clear BK184; clear HB; have HO181 := n0_; have HO187 := n1_; have BK184 := n2_; have HB := n3_; have BK190 := n4_; have GW190 := n5_; have GE190 := n6_; have NB184_190 := n7_; have NB190_184 := n8_; clear n0_ n1_ n2_ n3_ n4_ n5_ n6_ n7_ n8_; clear hb hbox hg; obtain ⟨Ao17, co17, eo17⟩ := Kd.R_slice HO187.out; subst eo17; have hnb18 := NB190_184.out; have hnc18 := NB184_190.out; have hcz19_0 : w16.cell? ⟨gb190, 0, none⟩ = some (.slice none 0 0) := (blk_cell BK190.out 0).trans rfl; have hcz19_1 : w16.cell? ⟨gb190, 1, none⟩ = some (.int .u8 0) := (blk_cell BK190.out 1).trans rfl; have hfz19_0 := blk_frozen BK190.out 0; have hfz19_1 := blk_frozen BK190.out 1))
      repeat (go_quiet (first | (go_at_call 5; (with_reducible refine (ops_Name.calls x4_1 t177 _ ?side1 A4.out).mono ?_); (case side1 => first | exact GG.sub HG.out (by decide) | exact GG.sub (GG.below (by repeat (first | (with_reducible first | exact HB.out | apply below_alloc | apply pw_below_drewN | apply below_drew1) | exact HB.out)) HG.out) (by decide) | exact GG.sub (GG.drawn (by assumption) HG.out) (by decide)); rintro e w9 ⟨rfl, hb⟩; have n0_ := Aside0.mk (below_step (by repeat (first | (with_reducible first | exact HB.out | apply below_alloc | apply pw_below_drewN | apply below_drew1) | exact HB.out)) hb); clear HB; have HB := n0_; clear n0_; (try clear hb); (try clear hb2); (try clear hk); (try clear hi)) | (go_at_call 5; (with_reducible refine (ops_Name.calls x5_1 t178 _ ?side1 A5.out).mono ?_); (case side1 => first | exact GG.sub HG.out (by decide) | exact GG.sub (GG.below (by repeat (first | (with_reducible first | exact HB.out | apply below_alloc | apply pw_below_drewN | apply below_drew1) | exact HB.out)) HG.out) (by decide) | exact GG.sub (GG.drawn (by assumption) HG.out) (by decide)); rintro e w10 ⟨rfl, hb⟩; have n0_ := Aside0.mk (below_step (by repeat (first | (with_reducible first | exact HB.out | apply below_alloc | apply pw_below_drewN | apply below_drew1) | exact HB.out)) hb); clear HB; have HB := n0_; clear n0_; (try clear hb); (try clear hb2); (try clear hk); (try clear hi)) | (go_at_call 6; (with_reducible refine (ops_Sign.calls kj1 x4_1 t179 t182 t183 _ ?side1 A6.out).mono ?_); (case side1 => first | exact HG.out | exact GG.below (by repeat (first | (with_reducible first | exact HB.out | apply below_alloc | apply pw_below_drewN | apply below_drew1) | exact HB.out)) HG.out | exact GG.drawn (by assumption) HG.out); rintro e w11 ⟨v180, rfl, ho0, hb⟩; have n0_ := Aside0.mk (Kd.R_lower ho0 (below_size (by repeat (first | (with_reducible first | exact HB.out | apply below_alloc | apply pw_below_drewN | apply below_drew1) | exact HB.out)))); have n1_ := Aside0.mk (below_step (by repeat (first | (with_reducible first | exact HB.out | apply below_alloc | apply pw_below_drewN | apply below_drew1) | exact HB.out)) hb); clear HB; have HO181 := n0_; have HB := n1_; clear n0_ n1_; (try clear hb); (try clear hb2); (try clear hk); (try clear hi); (try clear ho0); (try simp only [errW_none, errW_some])) | ((with_reducible refine gate_dst (N := 8) rfl ?_); (try (refine gate_guard (by rfl) ?_; dsimp only)); refine box_event ?hg (N := 8) ?hd (cs := #[.slice none 0 0, .int .u8 0]) (t := 27) ?hr ?_; (case hd => rfl); (case hg => rfl); (case hr => first | (go_simp; done) | (go_simp; rfl)); intro gb184 hg w12 hbox hb; have n0_ := Aside0.mk (Kd.R_below (by (with_reducible repeat (first | apply Kd.R_alloc | apply Kd.R_drewN | apply Kd.R_drew)); exact HO181.out) hb); have n1_ := Aside0.mk (below_step (by repeat (first | (with_reducible first | exact HB.out | apply below_alloc | apply pw_below_drewN | apply below_drew1) | exact HB.out)) hb); have n2_ := Aside0.mk (hbox); have n3_ := Aside0.mk ((by rw [hg]; exact (below_size (by repeat (first | (with_reducible first | exact HB.out | apply below_alloc | apply pw_below_drewN | apply below_drew1) | exact HB.out))) : w.heap.size ≤ gb184)); have n4_ := Aside0.mk ((by rw [hg]; exact (below_size (by repeat (first | (with_reducible first | exact HB.out | apply below_alloc | apply pw_below_drewN | apply below_drew1) | exact HB.out))) : w.heap.size ≤ gb184)); clear HO181; clear HB; have HO181 := n0_; have HB := n1_; have BK184 := n2_; have GW184 := n3_; have GE184 := n4_; clear n0_ n1_ n2_ n3_ n4_; clear hb hbox hg; obtain ⟨Ao13, co13, eo13⟩ := Kd.R_slice HO181.out; subst eo13; have hcz14_0 : w12.cell? ⟨gb184, 0, none⟩ = some (.slice none 0 0) := (blk_cell BK184.out 0).trans rfl; have hcz14_1 : w12.cell? ⟨gb184, 1, none⟩ = some (.int .u8 0) := (blk_cell BK184.out 1).trans rfl; have hfz14_0 := blk_frozen BK184.out 0; have hfz14_1 := blk_frozen BK184.out 1) | (go_at_call 6; (with_reducible refine (ops_Sign.calls kj1 x5_1 t185 t188 t189 _ ?side1 A7.out).mono ?_); (case side1 => first | exact HG.out | exact GG.below (by repeat (first | (with_reducible first | exact HB.out | apply below_alloc | apply pw_below_drewN | apply below_drew1 | refine below_set ?_ GE184.out) | exact HB.out)) HG.out | exact GG.drawn (by assumption) HG.out); rintro e w15 ⟨v186, rfl, ho0, hb⟩; have n0_ := Aside0.mk (Kd.R_elder' (by (with_reducible repeat (first | apply Kd.R_alloc | apply Kd.R_drewN | apply Kd.R_drew)); exact (Kd.R_mono (Kd.R_far (p := ⟨gb184, 1, none⟩) (Kd.R_far (p := ⟨gb184, 0, none⟩) (Kd.R_types HO181.out BK184.out (by decide)) (fun _ hk => hk.2) (.slice Ao13 t179.length co13)) (fun _ hk => hk.2) (.int .u8 t182)) (fun _ h_ => h_.1))) (Kd.R_base ho0) hb); have n1_ := Aside0.mk (Kd.R_lower (Kd.R_new' ho0 (Kd.R_lt (by (with_reducible repeat (first | apply Kd.R_alloc | apply Kd.R_drewN | apply Kd.R_drew)); exact (Kd.R_mono (Kd.R_far (p := ⟨gb184, 1, none⟩) (Kd.R_far (p := ⟨gb184, 0, none⟩) (Kd.R_types HO181.out BK184.out (by decide)) (fun _ hk => hk.2) (.slice Ao13 t179.length co13)) (fun _ hk => hk.2) (.int .u8 t182)) (fun _ h_ => h_.1))))) (below_size (by repeat (first | (with_reducible first | exact HB.out | apply below_alloc | apply pw_below_drewN | apply below_drew1 | refine below_set ?_ GE184.out) | exact HB.out)))); have n2_ := Aside0.mk (blk_below (g := gb184) (o := .cells #[.slice Ao13 t179.length co13, .int .u8 t182] 27 (0, 0)) (by (with_reducible repeat (first | refine blk_drewN ?_ _ | refine blk_drew ?_ | refine blk_alloc ?_ _)); refine blk_put (cs := #[.slice Ao13 t179.length co13, .int .u8 0]) ?_ 1 _ rfl; (with_reducible repeat (first | refine blk_drewN ?_ _ | refine blk_drew ?_ | refine blk_alloc ?_ _)); refine blk_put (cs := #[.slice none 0 0, .int .u8 0]) ?_ 0 _ rfl; (with_reducible repeat (first | refine blk_drewN ?_ _ | refine blk_drew ?_ | refine blk_alloc ?_ _)); exact BK184.out) hb); have n3_ := Aside0.mk (below_step (by repeat (first | (with_reducible first | exact HB.out | apply below_alloc | apply pw_below_drewN | apply below_drew1 | refine below_set ?_ GE184.out) | exact HB.out)) hb); clear HO181; clear BK184; clear HB; have HO181 := n0_; have HO187 := n1_; have BK184 := n2_; have HB := n3_; clear n0_ n1_ n2_ n3_; (try clear hb); (try clear hb2); (try clear hk); (try clear hi); (try clear ho0); (try simp only [errW_none, errW_some])) | ((with_reducible refine gate_dst (N := 10) rfl ?_); (try (refine gate_guard (by rfl) ?_; dsimp only)); refine box_event ?hg (N := 10) ?hd (cs := #[.slice none 0 0, .int .u8 0]) (t := 27) ?hr ?_; (case hd => rfl); (case hg => rfl); (case hr => first | (go_simp; done) | (go_simp; rfl)); intro gb190 hg w16 hbox hb; have n0_ := Aside0.mk (Kd.R_below (by (with_reducible repeat (first | apply Kd.R_alloc | apply Kd.R_drewN | apply Kd.R_drew)); exact HO181.out) hb); have n1_ := Aside0.mk (Kd.R_below (by (with_reducible repeat (first | apply Kd.R_alloc | apply Kd.R_drewN | apply Kd.R_drew)); exact HO187.out) hb); have n2_ := Aside0.mk (blk_below (g := gb184) (o := .cells #[.slice Ao13 t179.length co13, .int .u8 t182] 27 (0, 0)) (by (with_reducible repeat (first | refine blk_drewN ?_ _ | refine blk_drew ?_ | refine blk_alloc ?_ _)); exact BK184.out) hb); have n3_ := Aside0.mk (below_step (by repeat (first | (with_reducible first | exact HB.out | apply below_alloc | apply pw_below_drewN | apply below_drew1 | refine below_set ?_ GE184.out) | exact HB.out)) hb); have n4_ := Aside0.mk (hbox); have n5_ := Aside0.mk ((by rw [hg]; exact (below_size (by repeat (first | (with_reducible first | exact HB.out | apply below_alloc | apply pw_below_drewN | apply below_drew1 | refine below_set ?_ GE184.out) | exact HB.out))) : w.heap.size ≤ gb190)); have n6_ := Aside0.mk ((by rw [hg]; exact (below_size (by repeat (first | (with_reducible first | exact HB.out | apply below_alloc | apply pw_below_drewN | apply below_drew1 | refine below_set ?_ GE184.out) | exact HB.out))) : w.heap.size ≤ gb190)); have n7_ := Aside0.mk ((by rw [hg]; exact Nat.ne_of_lt (blk_lt (g := gb184) (o := .cells #[.slice Ao13 t179.length co13, .int .u8 t182] 27 (0, 0)) (by (with_reducible repeat (first | refine blk_drewN ?_ _ | refine blk_drew ?_ | refine blk_alloc ?_ _)); exact BK184.out)) : gb184 ≠ gb190)); have n8_ := Aside0.mk ((by rw [hg]; exact Nat.ne_of_gt (blk_lt (g := gb184) (o := .cells #[.slice Ao13 t179.length co13, .int .u8 t182] 27 (0, 0)) (by (with_reducible repeat (first | refine blk_drewN ?_ _ | refine blk_drew ?_ | refine blk_alloc ?_ _)); exact BK184.out)) : gb190 ≠ gb184)); clear HO181; clear HO187; clear BK184; clear HB; have HO181 := n0_; have HO187 := n1_; have BK184 := n2_; have HB := n3_; have BK190 := n4_; have GW190 := n5_; have GE190 := n6_; have NB184_190 := n7_; have NB190_184 := n8_; clear n0_ n1_ n2_ n3_ n4_ n5_ n6_ n7_ n8_; clear hb hbox hg; obtain ⟨Ao17, co17, eo17⟩ := Kd.R_slice HO187.out; subst eo17; have hnb18 := NB190_184.out; have hnc18 := NB184_190.out; have hcz19_0 : w16.cell? ⟨gb190, 0, none⟩ = some (.slice none 0 0) := (blk_cell BK190.out 0).trans rfl; have hcz19_1 : w16.cell? ⟨gb190, 1, none⟩ = some (.int .u8 0) := (blk_cell BK190.out 1).trans rfl; have hfz19_0 := blk_frozen BK190.out 0; have hfz19_1 := blk_frozen BK190.out 1)); go_upto_region 8 with (first | (go_at_call 5; (with_reducible refine (ops_Name.calls x4_1 t177 _ ?side1 A4.out).mono ?_); (case side1 => first | exact GG.sub HG.out (by decide) | exact GG.sub (GG.below (by repeat (first | (with_reducible first | exact HB.out | apply below_alloc | apply pw_below_drewN | apply below_drew1) | exact HB.out)) HG.out) (by decide) | exact GG.sub (GG.drawn (by assumption) HG.out) (by decide)); rintro e w9 ⟨rfl, hb⟩; have n0_ := Aside0.mk (below_step (by repeat (first | (with_reducible first | exact HB.out | apply below_alloc | apply pw_below_drewN | apply below_drew1) | exact HB.out)) hb); clear HB; have HB := n0_; clear n0_; (try clear hb); (try clear hb2); (try clear hk); (try clear hi)) | (go_at_call 5; (with_reducible refine (ops_Name.calls x5_1 t178 _ ?side1 A5.out).mono ?_); (case side1 => first | exact GG.sub HG.out (by decide) | exact GG.sub (GG.below (by repeat (first | (with_reducible first | exact HB.out | apply below_alloc | apply pw_below_drewN | apply below_drew1) | exact HB.out)) HG.out) (by decide) | exact GG.sub (GG.drawn (by assumption) HG.out) (by decide)); rintro e w10 ⟨rfl, hb⟩; have n0_ := Aside0.mk (below_step (by repeat (first | (with_reducible first | exact HB.out | apply below_alloc | apply pw_below_drewN | apply below_drew1) | exact HB.out)) hb); clear HB; have HB := n0_; clear n0_; (try clear hb); (try clear hb2); (try clear hk); (try clear hi)) | (go_at_call 6; (with_reducible refine (ops_Sign.calls kj1 x4_1 t179 t182 t183 _ ?side1 A6.out).mono ?_); (case side1 => first | exact HG.out | exact GG.below (by repeat (first | (with_reducible first | exact HB.out | apply below_alloc | apply pw_below_drewN | apply below_drew1) | exact HB.out)) HG.out | exact GG.drawn (by assumption) HG.out); rintro e w11 ⟨v180, rfl, ho0, hb⟩; have n0_ := Aside0.mk (Kd.R_lower ho0 (below_size (by repeat (first | (with_reducible first | exact HB.out | apply below_alloc | apply pw_below_drewN | apply below_drew1) | exact HB.out)))); have n1_ := Aside0.mk (below_step (by repeat (first | (with_reducible first | exact HB.out | apply below_alloc | apply pw_below_drewN | apply below_drew1) | exact HB.out)) hb); clear HB; have HO181 := n0_; have HB := n1_; clear n0_ n1_; (try clear hb); (try clear hb2); (try clear hk); (try clear hi); (try clear ho0); (try simp only [errW_none, errW_some])) | ((with_reducible refine gate_dst (N := 8) rfl ?_); (try (refine gate_guard (by rfl) ?_; dsimp only)); refine box_event ?hg (N := 8) ?hd (cs := #[.slice none 0 0, .int .u8 0]) (t := 27) ?hr ?_; (case hd => rfl); (case hg => rfl); (case hr => first | (go_simp; done) | (go_simp; rfl)); intro gb184 hg w12 hbox hb; have n0_ := Aside0.mk (Kd.R_below (by (with_reducible repeat (first | apply Kd.R_alloc | apply Kd.R_drewN | apply Kd.R_drew)); exact HO181.out) hb); have n1_ := Aside0.mk (below_step (by repeat (first | (with_reducible first | exact HB.out | apply below_alloc | apply pw_below_drewN | apply below_drew1) | exact HB.out)) hb); have n2_ := Aside0.mk (hbox); have n3_ := Aside0.mk ((by rw [hg]; exact (below_size (by repeat (first | (with_reducible first | exact HB.out | apply below_alloc | apply pw_below_drewN | apply below_drew1) | exact HB.out))) : w.heap.size ≤ gb184)); have n4_ := Aside0.mk ((by rw [hg]; exact (below_size (by repeat (first | (with_reducible first | exact HB.out | apply below_alloc | apply pw_below_drewN | apply below_drew1) | exact HB.out))) : w.heap.size ≤ gb184)); clear HO181; clear HB; have HO181 := n0_; have HB := n1_; have BK184 := n2_; have GW184 := n3_; have GE184 := n4_; clear n0_ n1_ n2_ n3_ n4_; clear hb hbox hg; obtain ⟨Ao13, co13, eo13⟩ := Kd.R_slice HO181.out; subst eo13; have hcz14_0 : w12.cell? ⟨gb184, 0, none⟩ = some (.slice none 0 0) := (blk_cell BK184.out 0).trans rfl; have hcz14_1 : w12.cell? ⟨gb184, 1, none⟩ = some (.int .u8 0) := (blk_cell BK184.out 1).trans rfl; have hfz14_0 := blk_frozen BK184.out 0; have hfz14_1 := blk_frozen BK184.out 1) | (go_at_call 6; (with_reducible refine (ops_Sign.calls kj1 x5_1 t185 t188 t189 _ ?side1 A7.out).mono ?_); (case side1 => first | exact HG.out | exact GG.below (by repeat (first | (with_reducible first | exact HB.out | apply below_alloc | apply pw_below_drewN | apply below_drew1 | refine below_set ?_ GE184.out) | exact HB.out)) HG.out | exact GG.drawn (by assumption) HG.out); rintro e w15 ⟨v186, rfl, ho0, hb⟩; have n0_ := Aside0.mk (Kd.R_elder' (by (with_reducible repeat (first | apply Kd.R_alloc | apply Kd.R_drewN | apply Kd.R_drew)); exact (Kd.R_mono (Kd.R_far (p := ⟨gb184, 1, none⟩) (Kd.R_far (p := ⟨gb184, 0, none⟩) (Kd.R_types HO181.out BK184.out (by decide)) (fun _ hk => hk.2) (.slice Ao13 t179.length co13)) (fun _ hk => hk.2) (.int .u8 t182)) (fun _ h_ => h_.1))) (Kd.R_base ho0) hb); have n1_ := Aside0.mk (Kd.R_lower (Kd.R_new' ho0 (Kd.R_lt (by (with_reducible repeat (first | apply Kd.R_alloc | apply Kd.R_drewN | apply Kd.R_drew)); exact (Kd.R_mono (Kd.R_far (p := ⟨gb184, 1, none⟩) (Kd.R_far (p := ⟨gb184, 0, none⟩) (Kd.R_types HO181.out BK184.out (by decide)) (fun _ hk => hk.2) (.slice Ao13 t179.length co13)) (fun _ hk => hk.2) (.int .u8 t182)) (fun _ h_ => h_.1))))) (below_size (by repeat (first | (with_reducible first | exact HB.out | apply below_alloc | apply pw_below_drewN | apply below_drew1 | refine below_set ?_ GE184.out) | exact HB.out)))); have n2_ := Aside0.mk (blk_below (g := gb184) (o := .cells #[.slice Ao13 t179.length co13, .int .u8 t182] 27 (0, 0)) (by (with_reducible repeat (first | refine blk_drewN ?_ _ | refine blk_drew ?_ | refine blk_alloc ?_ _)); refine blk_put (cs := #[.slice Ao13 t179.length co13, .int .u8 0]) ?_ 1 _ rfl; (with_reducible repeat (first | refine blk_drewN ?_ _ | refine blk_drew ?_ | refine blk_alloc ?_ _)); refine blk_put (cs := #[.slice none 0 0, .int .u8 0]) ?_ 0 _ rfl; (with_reducible repeat (first | refine blk_drewN ?_ _ | refine blk_drew ?_ | refine blk_alloc ?_ _)); exact BK184.out) hb); have n3_ := Aside0.mk (below_step (by repeat (first | (with_reducible first | exact HB.out | apply below_alloc | apply pw_below_drewN | apply below_drew1 | refine below_set ?_ GE184.out) | exact HB.out)) hb); clear HO181; clear BK184; clear HB; have HO181 := n0_; have HO187 := n1_; have BK184 := n2_; have HB := n3_; clear n0_ n1_ n2_ n3_; (try clear hb); (try clear hb2); (try clear hk); (try clear hi); (try clear ho0); (try simp only [errW_none, errW_some])) | ((with_reducible refine gate_dst (N := 10) rfl ?_); (try (refine gate_guard (by rfl) ?_; dsimp only)); refine box_event ?hg (N := 10) ?hd (cs := #[.slice none 0 0, .int .u8 0]) (t := 27) ?hr ?_; (case hd => rfl); (case hg => rfl); (case hr => first | (go_simp; done) | (go_simp; rfl)); intro gb190 hg w16 hbox hb; have n0_ := Aside0.mk (Kd.R_below (by (with_reducible repeat (first | apply Kd.R_alloc | apply Kd.R_drewN | apply Kd.R_drew)); exact HO181.out) hb); have n1_ := Aside0.mk (Kd.R_below (by (with_reducible repeat (first | apply Kd.R_alloc | apply Kd.R_drewN | apply Kd.R_drew)); exact HO187.out) hb); have n2_ := Aside0.mk (blk_below (g := gb184) (o := .cells #[.slice Ao13 t179.length co13, .int .u8 t182] 27 (0, 0)) (by (with_reducible repeat (first | refine blk_drewN ?_ _ | refine blk_drew ?_ | refine blk_alloc ?_ _)); exact BK184.out) hb); have n3_ := Aside0.mk (below_step (by repeat (first | (with_reducible first | exact HB.out | apply below_alloc | apply pw_below_drewN | apply below_drew1 | refine below_set ?_ GE184.out) | exact HB.out)) hb); have n4_ := Aside0.mk (hbox); have n5_ := Aside0.mk ((by rw [hg]; exact (below_size (by repeat (first | (with_reducible first | exact HB.out | apply below_alloc | apply pw_below_drewN | apply below_drew1 | refine below_set ?_ GE184.out) | exact HB.out))) : w.heap.size ≤ gb190)); have n6_ := Aside0.mk ((by rw [hg]; exact (below_size (by repeat (first | (with_reducible first | exact HB.out | apply below_alloc | apply pw_below_drewN | apply below_drew1 | refine below_set ?_ GE184.out) | exact HB.out))) : w.heap.size ≤ gb190)); have n7_ := Aside0.mk ((by rw [hg]; exact Nat.ne_of_lt (blk_lt (g := gb184) (o := .cells #[.slice Ao13 t179.length co13, .int .u8 t182] 27 (0, 0)) (by (with_reducible repeat (first | refine blk_drewN ?_ _ | refine blk_drew ?_ | refine blk_alloc ?_ _)); exact BK184.out)) : gb184 ≠ gb190)); have n8_ := Aside0.mk ((by rw [hg]; exact Nat.ne_of_gt (blk_lt (g := gb184) (o := .cells #[.slice Ao13 t179.length co13, .int .u8 t182] 27 (0, 0)) (by (with_reducible repeat (first | refine blk_drewN ?_ _ | refine blk_drew ?_ | refine blk_alloc ?_ _)); exact BK184.out)) : gb190 ≠ gb184)); clear HO181; clear HO187; clear BK184; clear HB; have HO181 := n0_; have HO187 := n1_; have BK184 := n2_; have HB := n3_; have BK190 := n4_; have GW190 := n5_; have GE190 := n6_; have NB184_190 := n7_; have NB190_184 := n8_; clear n0_ n1_ n2_ n3_ n4_ n5_ n6_ n7_ n8_; clear hb hbox hg; obtain ⟨Ao17, co17, eo17⟩ := Kd.R_slice HO187.out; subst eo17; have hnb18 := NB190_184.out; have hnc18 := NB184_190.out; have hcz19_0 : w16.cell? ⟨gb190, 0, none⟩ = some (.slice none 0 0) := (blk_cell BK190.out 0).trans rfl; have hcz19_1 : w16.cell? ⟨gb190, 1, none⟩ = some (.int .u8 0) := (blk_cell BK190.out 1).trans rfl; have hfz19_0 := blk_frozen BK190.out 0; have hfz19_1 := blk_frozen BK190.out 1)))
      (try simp only [Act.put, List.setIfInBounds_toArray, List.set_cons_zero, List.set_cons_succ])
      go_cut [97] (fun v97 wc => ∃ (kq : Nat) (x97_7 : Bool), v97 = .bool x97_7 ∧ Aside0 (mandrellaw04_OpsPairs.j1 kq (wrap64 (Int.tmod (IntKind.u64.wrap (a0)) 29)) x97_7 t179 t182 t185 t188 = some r) ∧ Aside0 (kq ≤ kj1) ∧ Aside0 (Kd.R (Kd.int .u8) 25 wc w.heap.size (fun k_ => some k_ ≠ ((.slice Ao17 t185.length co17) : Value).ownBlock) (.slice Ao13 t179.length co13) t179) ∧ Aside0 (Kd.R (Kd.int .u8) 25 wc w.heap.size (fun k_ => some k_ ≠ ((.slice Ao13 t179.length co13) : Value).ownBlock) (.slice Ao17 t185.length co17) t185) ∧ Aside0 (wc.heap[gb184]? = some (.cells #[(.slice Ao13 t179.length co13), .int .u8 t182] 27 (0, 0))) ∧ Aside0 (wc.heap[gb190]? = some (.cells #[(.slice Ao17 t185.length co17), .int .u8 t188] 27 (0, 0))) ∧ Aside0 (Below w.heap.size w wc))
      case first =>
        have H := HC8.out
        clear HC8
        rcases t183 with _ | q191
        · have H1 : (if t189.isNone = true then (if (t177.size : Int) < 5 then (mandrellaw04_OpsPairs.j1 kj1 (wrap64 (Int.tmod (IntKind.u64.wrap (a0)) 29)) true t179 t182 t185 t188) else (if (t178.size : Int) = (t177.size : Int) then (if 0 ≤ 4 then (if 4 ≤ (t177.size : Int) then (if (t177.extract 0 4).toList = ([105, 51, 50, 46] : List UInt8) then (if 4 ≤ (t178.size : Int) then (if (t178.extract 0 4).toList = ([105, 54, 52, 46] : List UInt8) then (if (t177.extract 4 t177.size).toList = (t178.extract 4 t178.size).toList then (if (t179.length : Int) = (t185.length : Int) then (mandrellaw04_OpsPairs.j1 kj1 (wrap64 (Int.tmod (IntKind.u64.wrap (a0)) 29)) (decide ((t179.length : Int) < 1)) t179 t182 t185 t188) else (mandrellaw04_OpsPairs.j1 kj1 (wrap64 (Int.tmod (IntKind.u64.wrap (a0)) 29)) true t179 t182 t185 t188)) else (mandrellaw04_OpsPairs.j1 kj1 (wrap64 (Int.tmod (IntKind.u64.wrap (a0)) 29)) true t179 t182 t185 t188)) else (mandrellaw04_OpsPairs.j1 kj1 (wrap64 (Int.tmod (IntKind.u64.wrap (a0)) 29)) true t179 t182 t185 t188)) else (none)) else (mandrellaw04_OpsPairs.j1 kj1 (wrap64 (Int.tmod (IntKind.u64.wrap (a0)) 29)) true t179 t182 t185 t188)) else (none)) else (none)) else (mandrellaw04_OpsPairs.j1 kj1 (wrap64 (Int.tmod (IntKind.u64.wrap (a0)) 29)) true t179 t182 t185 t188))) else (mandrellaw04_OpsPairs.j1 kj1 (wrap64 (Int.tmod (IntKind.u64.wrap (a0)) 29)) true t179 t182 t185 t188)) = some r := by rw [if_pos (show (none : Option Int).isNone = true by rfl)] at H; exact H
          clear H
          have H := H1
          clear H1
          try simp only [errW_none, errW_some]
          rcases t189 with _ | q192
          · have H1 : (if (t177.size : Int) < 5 then (mandrellaw04_OpsPairs.j1 kj1 (wrap64 (Int.tmod (IntKind.u64.wrap (a0)) 29)) true t179 t182 t185 t188) else (if (t178.size : Int) = (t177.size : Int) then (if 0 ≤ 4 then (if 4 ≤ (t177.size : Int) then (if (t177.extract 0 4).toList = ([105, 51, 50, 46] : List UInt8) then (if 4 ≤ (t178.size : Int) then (if (t178.extract 0 4).toList = ([105, 54, 52, 46] : List UInt8) then (if (t177.extract 4 t177.size).toList = (t178.extract 4 t178.size).toList then (if (t179.length : Int) = (t185.length : Int) then (mandrellaw04_OpsPairs.j1 kj1 (wrap64 (Int.tmod (IntKind.u64.wrap (a0)) 29)) (decide ((t179.length : Int) < 1)) t179 t182 t185 t188) else (mandrellaw04_OpsPairs.j1 kj1 (wrap64 (Int.tmod (IntKind.u64.wrap (a0)) 29)) true t179 t182 t185 t188)) else (mandrellaw04_OpsPairs.j1 kj1 (wrap64 (Int.tmod (IntKind.u64.wrap (a0)) 29)) true t179 t182 t185 t188)) else (mandrellaw04_OpsPairs.j1 kj1 (wrap64 (Int.tmod (IntKind.u64.wrap (a0)) 29)) true t179 t182 t185 t188)) else (none)) else (mandrellaw04_OpsPairs.j1 kj1 (wrap64 (Int.tmod (IntKind.u64.wrap (a0)) 29)) true t179 t182 t185 t188)) else (none)) else (none)) else (mandrellaw04_OpsPairs.j1 kj1 (wrap64 (Int.tmod (IntKind.u64.wrap (a0)) 29)) true t179 t182 t185 t188))) = some r := by rw [if_pos (show (none : Option Int).isNone = true by rfl)] at H; exact H
            clear H
            have H := H1
            clear H1
            try simp only [errW_none, errW_some]
            by_cases c20 : (t177.size : Int) < 5
            · rw [if_pos c20] at H
              have c20b0 : decide ((t177.size : Int) < 5) = true := decide_eq_true c20
              have c20b1 : decide (t177.size < 5) = true := decide_eq_true (by omega)
              clear c20
              (first | rw [c20b0] | (simp only [i64_w, i32_w]; rw [c20b0]) | skip)
              have H' := Aside0.mk H
              clear H
              go_wp2
              repeat (go_quiet (fail); try go_wp2)
              go_meet
              case rel => exact ⟨_, (true), (by first | rfl | (simp; done) | (simp [*]; done)), H', ⟨by have := HJ1.out; first | omega | exact Nat.le_refl _⟩, ⟨by (with_reducible repeat (first | apply Kd.R_alloc | apply Kd.R_drewN | apply Kd.R_drew)); exact Kd.R_mono (Kd.R_far (p := ⟨gb190, 1, none⟩) (Kd.R_far (p := ⟨gb190, 0, none⟩) (Kd.R_types HO181.out BK190.out (by decide)) (fun _ hk => hk.2) (.slice Ao17 t185.length co17)) (fun _ hk => hk.2) (.int .u8 t188)) (fun _ hk => hk.1.2)⟩, ⟨by (with_reducible repeat (first | apply Kd.R_alloc | apply Kd.R_drewN | apply Kd.R_drew)); exact Kd.R_mono (Kd.R_far (p := ⟨gb190, 1, none⟩) (Kd.R_far (p := ⟨gb190, 0, none⟩) (Kd.R_types HO187.out BK190.out (by decide)) (fun _ hk => hk.2) (.slice Ao17 t185.length co17)) (fun _ hk => hk.2) (.int .u8 t188)) (fun _ hk => hk.1.2)⟩, ⟨by (with_reducible repeat (first | refine blk_drewN ?_ _ | refine blk_drew ?_ | refine blk_alloc ?_ _)); refine blk_far ?_ NB184_190.out _; (with_reducible repeat (first | refine blk_drewN ?_ _ | refine blk_drew ?_ | refine blk_alloc ?_ _)); refine blk_far ?_ NB184_190.out _; (with_reducible repeat (first | refine blk_drewN ?_ _ | refine blk_drew ?_ | refine blk_alloc ?_ _)); exact BK184.out⟩, ⟨by (with_reducible repeat (first | refine blk_drewN ?_ _ | refine blk_drew ?_ | refine blk_alloc ?_ _)); refine blk_put (cs := #[.slice Ao17 t185.length co17, .int .u8 0]) ?_ 1 _ rfl; (with_reducible repeat (first | refine blk_drewN ?_ _ | refine blk_drew ?_ | refine blk_alloc ?_ _)); refine blk_put (cs := #[.slice none 0 0, .int .u8 0]) ?_ 0 _ rfl; (with_reducible repeat (first | refine blk_drewN ?_ _ | refine blk_drew ?_ | refine blk_alloc ?_ _)); exact BK190.out⟩, ⟨by repeat (first | (with_reducible first | exact HB.out | apply below_alloc | apply pw_below_drewN | apply below_drew1 | refine below_set ?_ GE184.out | refine below_set ?_ GE190.out) | exact HB.out)⟩⟩
            · rw [if_neg c20] at H
              have c20b0 : decide ((t177.size : Int) < 5) = false := decide_eq_false c20
              have c20b1 : decide (t177.size < 5) = false := decide_eq_false (by omega)
              clear c20
              (first | rw [c20b0] | (simp only [i64_w, i32_w]; rw [c20b0]) | skip)
              by_cases c21 : (t178.size : Int) = (t177.size : Int)
              · rw [if_pos c21] at H
                have c21b0 : ((t178.size : Int) == (t177.size : Int)) = true := beq_iff_eq.mpr c21
                have c21b1 : ((t178.size : Int) != (t177.size : Int)) = false := bne_eq_false_iff_eq.mpr c21
                have c21b2 : (t178.size == t177.size) = true := by first | simpa using c21 | (simp at c21 ⊢; omega)
                clear c21
                by_cases c22 : 0 ≤ 4
                · rw [if_pos c22] at H
                  have c22b0 := eq_true c22
                  have c22b1 : decide (0 ≤ 4) = true := decide_eq_true c22
                  clear c22
                  by_cases c23 : 4 ≤ (t177.size : Int)
                  · rw [if_pos c23] at H
                    have c23b0 := eq_true c23
                    have c23b1 : decide (4 ≤ (t177.size : Int)) = true := decide_eq_true c23
                    clear c23
                    by_cases c24 : (t177.extract 0 4).toList = ([105, 51, 50, 46] : List UInt8)
                    · rw [if_pos c24] at H
                      have c24b0 : ((t177.extract 0 4).toList == ([105, 51, 50, 46] : List UInt8)) = true := beq_iff_eq.mpr c24
                      have c24b1 : ((t177.extract 0 4).toList != ([105, 51, 50, 46] : List UInt8)) = false := bne_eq_false_iff_eq.mpr c24
                      clear c24
                      have c25b0 := eq_true (of_decide_eq_true (by first | (with_reducible assumption) | assumption) : 0 ≤ 4)
                      by_cases c26 : 4 ≤ (t178.size : Int)
                      · rw [if_pos c26] at H
                        have c26b0 := eq_true c26
                        have c26b1 : decide (4 ≤ (t178.size : Int)) = true := decide_eq_true c26
                        clear c26
                        by_cases c27 : (t178.extract 0 4).toList = ([105, 54, 52, 46] : List UInt8)
                        · rw [if_pos c27] at H
                          have c27b0 : ((t178.extract 0 4).toList == ([105, 54, 52, 46] : List UInt8)) = true := beq_iff_eq.mpr c27
                          have c27b1 : ((t178.extract 0 4).toList != ([105, 54, 52, 46] : List UInt8)) = false := bne_eq_false_iff_eq.mpr c27
                          clear c27
                          have c28b0 := eq_true (of_decide_eq_true (by first | (with_reducible assumption) | assumption) : 4 ≤ (t177.size : Int))
                          have c29b0 := eq_true (of_decide_eq_true (by first | (with_reducible assumption) | assumption) : 4 ≤ (t178.size : Int))
                          by_cases c30 : (t177.extract 4 t177.size).toList = (t178.extract 4 t178.size).toList
                          · rw [if_pos c30] at H
                            have c30b0 : ((t177.extract 4 t177.size).toList == (t178.extract 4 t178.size).toList) = true := beq_iff_eq.mpr c30
                            have c30b1 : ((t177.extract 4 t177.size).toList != (t178.extract 4 t178.size).toList) = false := bne_eq_false_iff_eq.mpr c30
                            clear c30
                            by_cases c31 : (t179.length : Int) = (t185.length : Int)
                            · rw [if_pos c31] at H
                              have c31b0 : ((t179.length : Int) == (t185.length : Int)) = true := beq_iff_eq.mpr c31
                              have c31b1 : ((t179.length : Int) != (t185.length : Int)) = false := bne_eq_false_iff_eq.mpr c31
                              have c31b2 : (t179.length == t185.length) = true := by first | simpa using c31 | (simp at c31 ⊢; omega)
                              clear c31
                              have H' := Aside0.mk H
                              clear H
                              have hnb32 := NB184_190.out
                              have hnc32 := NB190_184.out
                              have hcz33_0 : w16.cell? ⟨gb184, 0, none⟩ = some (.slice Ao13 t179.length co13) := (blk_cell BK184.out 0).trans rfl
                              have hcz33_1 : w16.cell? ⟨gb184, 1, none⟩ = some (.int .u8 t182) := (blk_cell BK184.out 1).trans rfl
                              have hfz33_0 := blk_frozen BK184.out 0
                              have hfz33_1 := blk_frozen BK184.out 1
                              have hcz34_0 : w16.cell? ⟨gb190, 0, none⟩ = some (.slice none 0 0) := (blk_cell BK190.out 0).trans rfl
                              have hcz34_1 : w16.cell? ⟨gb190, 1, none⟩ = some (.int .u8 0) := (blk_cell BK190.out 1).trans rfl
                              have hfz34_0 := blk_frozen BK190.out 0
                              have hfz34_1 := blk_frozen BK190.out 1
                              go_wp2
                              repeat (go_quiet (fail); try go_wp2)
                              go_meet
                              case rel => exact ⟨_, (decide ((t179.length : Int) < 1)), (by first | rfl | (simp; done) | (simp [*]; done)), H', ⟨by have := HJ1.out; first | omega | exact Nat.le_refl _⟩, ⟨by (with_reducible repeat (first | apply Kd.R_alloc | apply Kd.R_drewN | apply Kd.R_drew)); exact Kd.R_mono (Kd.R_far (p := ⟨gb190, 1, none⟩) (Kd.R_far (p := ⟨gb190, 0, none⟩) (Kd.R_types HO181.out BK190.out (by decide)) (fun _ hk => hk.2) (.slice Ao17 t185.length co17)) (fun _ hk => hk.2) (.int .u8 t188)) (fun _ hk => hk.1.2)⟩, ⟨by (with_reducible repeat (first | apply Kd.R_alloc | apply Kd.R_drewN | apply Kd.R_drew)); exact Kd.R_mono (Kd.R_far (p := ⟨gb190, 1, none⟩) (Kd.R_far (p := ⟨gb190, 0, none⟩) (Kd.R_types HO187.out BK190.out (by decide)) (fun _ hk => hk.2) (.slice Ao17 t185.length co17)) (fun _ hk => hk.2) (.int .u8 t188)) (fun _ hk => hk.1.2)⟩, ⟨by (with_reducible repeat (first | refine blk_drewN ?_ _ | refine blk_drew ?_ | refine blk_alloc ?_ _)); refine blk_far ?_ NB184_190.out _; (with_reducible repeat (first | refine blk_drewN ?_ _ | refine blk_drew ?_ | refine blk_alloc ?_ _)); refine blk_far ?_ NB184_190.out _; (with_reducible repeat (first | refine blk_drewN ?_ _ | refine blk_drew ?_ | refine blk_alloc ?_ _)); exact BK184.out⟩, ⟨by (with_reducible repeat (first | refine blk_drewN ?_ _ | refine blk_drew ?_ | refine blk_alloc ?_ _)); refine blk_put (cs := #[.slice Ao17 t185.length co17, .int .u8 0]) ?_ 1 _ rfl; (with_reducible repeat (first | refine blk_drewN ?_ _ | refine blk_drew ?_ | refine blk_alloc ?_ _)); refine blk_put (cs := #[.slice none 0 0, .int .u8 0]) ?_ 0 _ rfl; (with_reducible repeat (first | refine blk_drewN ?_ _ | refine blk_drew ?_ | refine blk_alloc ?_ _)); exact BK190.out⟩, ⟨by repeat (first | (with_reducible first | exact HB.out | apply below_alloc | apply pw_below_drewN | apply below_drew1 | refine below_set ?_ GE184.out | refine below_set ?_ GE190.out) | exact HB.out)⟩⟩
                            · rw [if_neg c31] at H
                              have c31b0 : ((t179.length : Int) == (t185.length : Int)) = false := beq_eq_false_iff_ne.mpr c31
                              have c31b1 : ((t179.length : Int) != (t185.length : Int)) = true := bne_iff_ne.mpr c31
                              have c31b2 : (t179.length == t185.length) = false := by first | simpa using c31 | (simp at c31 ⊢; omega)
                              have H' := Aside0.mk H
                              clear H
                              have hnb35 := NB184_190.out
                              have hnc35 := NB190_184.out
                              have hcz36_0 : w16.cell? ⟨gb184, 0, none⟩ = some (.slice Ao13 t179.length co13) := (blk_cell BK184.out 0).trans rfl
                              have hcz36_1 : w16.cell? ⟨gb184, 1, none⟩ = some (.int .u8 t182) := (blk_cell BK184.out 1).trans rfl
                              have hfz36_0 := blk_frozen BK184.out 0
                              have hfz36_1 := blk_frozen BK184.out 1
                              have hcz37_0 : w16.cell? ⟨gb190, 0, none⟩ = some (.slice none 0 0) := (blk_cell BK190.out 0).trans rfl
                              have hcz37_1 : w16.cell? ⟨gb190, 1, none⟩ = some (.int .u8 0) := (blk_cell BK190.out 1).trans rfl
                              have hfz37_0 := blk_frozen BK190.out 0
                              have hfz37_1 := blk_frozen BK190.out 1
                              go_wp2
                              repeat (go_quiet (fail); try go_wp2)
                              go_meet
                              case rel => exact ⟨_, (true), (by first | rfl | (simp; done) | (simp [*]; done)), H', ⟨by have := HJ1.out; first | omega | exact Nat.le_refl _⟩, ⟨by (with_reducible repeat (first | apply Kd.R_alloc | apply Kd.R_drewN | apply Kd.R_drew)); exact Kd.R_mono (Kd.R_far (p := ⟨gb190, 1, none⟩) (Kd.R_far (p := ⟨gb190, 0, none⟩) (Kd.R_types HO181.out BK190.out (by decide)) (fun _ hk => hk.2) (.slice Ao17 t185.length co17)) (fun _ hk => hk.2) (.int .u8 t188)) (fun _ hk => hk.1.2)⟩, ⟨by (with_reducible repeat (first | apply Kd.R_alloc | apply Kd.R_drewN | apply Kd.R_drew)); exact Kd.R_mono (Kd.R_far (p := ⟨gb190, 1, none⟩) (Kd.R_far (p := ⟨gb190, 0, none⟩) (Kd.R_types HO187.out BK190.out (by decide)) (fun _ hk => hk.2) (.slice Ao17 t185.length co17)) (fun _ hk => hk.2) (.int .u8 t188)) (fun _ hk => hk.1.2)⟩, ⟨by (with_reducible repeat (first | refine blk_drewN ?_ _ | refine blk_drew ?_ | refine blk_alloc ?_ _)); refine blk_far ?_ NB184_190.out _; (with_reducible repeat (first | refine blk_drewN ?_ _ | refine blk_drew ?_ | refine blk_alloc ?_ _)); refine blk_far ?_ NB184_190.out _; (with_reducible repeat (first | refine blk_drewN ?_ _ | refine blk_drew ?_ | refine blk_alloc ?_ _)); exact BK184.out⟩, ⟨by (with_reducible repeat (first | refine blk_drewN ?_ _ | refine blk_drew ?_ | refine blk_alloc ?_ _)); refine blk_put (cs := #[.slice Ao17 t185.length co17, .int .u8 0]) ?_ 1 _ rfl; (with_reducible repeat (first | refine blk_drewN ?_ _ | refine blk_drew ?_ | refine blk_alloc ?_ _)); refine blk_put (cs := #[.slice none 0 0, .int .u8 0]) ?_ 0 _ rfl; (with_reducible repeat (first | refine blk_drewN ?_ _ | refine blk_drew ?_ | refine blk_alloc ?_ _)); exact BK190.out⟩, ⟨by repeat (first | (with_reducible first | exact HB.out | apply below_alloc | apply pw_below_drewN | apply below_drew1 | refine below_set ?_ GE184.out | refine below_set ?_ GE190.out) | exact HB.out)⟩⟩
                          · rw [if_neg c30] at H
                            have c30b0 : ((t177.extract 4 t177.size).toList == (t178.extract 4 t178.size).toList) = false := beq_eq_false_iff_ne.mpr c30
                            have c30b1 : ((t177.extract 4 t177.size).toList != (t178.extract 4 t178.size).toList) = true := bne_iff_ne.mpr c30
                            have H' := Aside0.mk H
                            clear H
                            go_wp2
                            repeat (go_quiet (fail); try go_wp2)
                            go_meet
                            case rel => exact ⟨_, (true), (by first | rfl | (simp; done) | (simp [*]; done)), H', ⟨by have := HJ1.out; first | omega | exact Nat.le_refl _⟩, ⟨by (with_reducible repeat (first | apply Kd.R_alloc | apply Kd.R_drewN | apply Kd.R_drew)); exact Kd.R_mono (Kd.R_far (p := ⟨gb190, 1, none⟩) (Kd.R_far (p := ⟨gb190, 0, none⟩) (Kd.R_types HO181.out BK190.out (by decide)) (fun _ hk => hk.2) (.slice Ao17 t185.length co17)) (fun _ hk => hk.2) (.int .u8 t188)) (fun _ hk => hk.1.2)⟩, ⟨by (with_reducible repeat (first | apply Kd.R_alloc | apply Kd.R_drewN | apply Kd.R_drew)); exact Kd.R_mono (Kd.R_far (p := ⟨gb190, 1, none⟩) (Kd.R_far (p := ⟨gb190, 0, none⟩) (Kd.R_types HO187.out BK190.out (by decide)) (fun _ hk => hk.2) (.slice Ao17 t185.length co17)) (fun _ hk => hk.2) (.int .u8 t188)) (fun _ hk => hk.1.2)⟩, ⟨by (with_reducible repeat (first | refine blk_drewN ?_ _ | refine blk_drew ?_ | refine blk_alloc ?_ _)); refine blk_far ?_ NB184_190.out _; (with_reducible repeat (first | refine blk_drewN ?_ _ | refine blk_drew ?_ | refine blk_alloc ?_ _)); refine blk_far ?_ NB184_190.out _; (with_reducible repeat (first | refine blk_drewN ?_ _ | refine blk_drew ?_ | refine blk_alloc ?_ _)); exact BK184.out⟩, ⟨by (with_reducible repeat (first | refine blk_drewN ?_ _ | refine blk_drew ?_ | refine blk_alloc ?_ _)); refine blk_put (cs := #[.slice Ao17 t185.length co17, .int .u8 0]) ?_ 1 _ rfl; (with_reducible repeat (first | refine blk_drewN ?_ _ | refine blk_drew ?_ | refine blk_alloc ?_ _)); refine blk_put (cs := #[.slice none 0 0, .int .u8 0]) ?_ 0 _ rfl; (with_reducible repeat (first | refine blk_drewN ?_ _ | refine blk_drew ?_ | refine blk_alloc ?_ _)); exact BK190.out⟩, ⟨by repeat (first | (with_reducible first | exact HB.out | apply below_alloc | apply pw_below_drewN | apply below_drew1 | refine below_set ?_ GE184.out | refine below_set ?_ GE190.out) | exact HB.out)⟩⟩
                        · rw [if_neg c27] at H
                          have c27b0 : ((t178.extract 0 4).toList == ([105, 54, 52, 46] : List UInt8)) = false := beq_eq_false_iff_ne.mpr c27
                          have c27b1 : ((t178.extract 0 4).toList != ([105, 54, 52, 46] : List UInt8)) = true := bne_iff_ne.mpr c27
                          have H' := Aside0.mk H
                          clear H
                          go_wp2
                          repeat (go_quiet (fail); try go_wp2)
                          go_meet
                          case rel => exact ⟨_, (true), (by first | rfl | (simp; done) | (simp [*]; done)), H', ⟨by have := HJ1.out; first | omega | exact Nat.le_refl _⟩, ⟨by (with_reducible repeat (first | apply Kd.R_alloc | apply Kd.R_drewN | apply Kd.R_drew)); exact Kd.R_mono (Kd.R_far (p := ⟨gb190, 1, none⟩) (Kd.R_far (p := ⟨gb190, 0, none⟩) (Kd.R_types HO181.out BK190.out (by decide)) (fun _ hk => hk.2) (.slice Ao17 t185.length co17)) (fun _ hk => hk.2) (.int .u8 t188)) (fun _ hk => hk.1.2)⟩, ⟨by (with_reducible repeat (first | apply Kd.R_alloc | apply Kd.R_drewN | apply Kd.R_drew)); exact Kd.R_mono (Kd.R_far (p := ⟨gb190, 1, none⟩) (Kd.R_far (p := ⟨gb190, 0, none⟩) (Kd.R_types HO187.out BK190.out (by decide)) (fun _ hk => hk.2) (.slice Ao17 t185.length co17)) (fun _ hk => hk.2) (.int .u8 t188)) (fun _ hk => hk.1.2)⟩, ⟨by (with_reducible repeat (first | refine blk_drewN ?_ _ | refine blk_drew ?_ | refine blk_alloc ?_ _)); refine blk_far ?_ NB184_190.out _; (with_reducible repeat (first | refine blk_drewN ?_ _ | refine blk_drew ?_ | refine blk_alloc ?_ _)); refine blk_far ?_ NB184_190.out _; (with_reducible repeat (first | refine blk_drewN ?_ _ | refine blk_drew ?_ | refine blk_alloc ?_ _)); exact BK184.out⟩, ⟨by (with_reducible repeat (first | refine blk_drewN ?_ _ | refine blk_drew ?_ | refine blk_alloc ?_ _)); refine blk_put (cs := #[.slice Ao17 t185.length co17, .int .u8 0]) ?_ 1 _ rfl; (with_reducible repeat (first | refine blk_drewN ?_ _ | refine blk_drew ?_ | refine blk_alloc ?_ _)); refine blk_put (cs := #[.slice none 0 0, .int .u8 0]) ?_ 0 _ rfl; (with_reducible repeat (first | refine blk_drewN ?_ _ | refine blk_drew ?_ | refine blk_alloc ?_ _)); exact BK190.out⟩, ⟨by repeat (first | (with_reducible first | exact HB.out | apply below_alloc | apply pw_below_drewN | apply below_drew1 | refine below_set ?_ GE184.out | refine below_set ?_ GE190.out) | exact HB.out)⟩⟩
                      · rw [if_neg c26] at H
                        exact absurd H (by simp)
                    · rw [if_neg c24] at H
                      have c24b0 : ((t177.extract 0 4).toList == ([105, 51, 50, 46] : List UInt8)) = false := beq_eq_false_iff_ne.mpr c24
                      have c24b1 : ((t177.extract 0 4).toList != ([105, 51, 50, 46] : List UInt8)) = true := bne_iff_ne.mpr c24
                      have H' := Aside0.mk H
                      clear H
                      go_wp2
                      repeat (go_quiet (fail); try go_wp2)
                      go_meet
                      case rel => exact ⟨_, (true), (by first | rfl | (simp; done) | (simp [*]; done)), H', ⟨by have := HJ1.out; first | omega | exact Nat.le_refl _⟩, ⟨by (with_reducible repeat (first | apply Kd.R_alloc | apply Kd.R_drewN | apply Kd.R_drew)); exact Kd.R_mono (Kd.R_far (p := ⟨gb190, 1, none⟩) (Kd.R_far (p := ⟨gb190, 0, none⟩) (Kd.R_types HO181.out BK190.out (by decide)) (fun _ hk => hk.2) (.slice Ao17 t185.length co17)) (fun _ hk => hk.2) (.int .u8 t188)) (fun _ hk => hk.1.2)⟩, ⟨by (with_reducible repeat (first | apply Kd.R_alloc | apply Kd.R_drewN | apply Kd.R_drew)); exact Kd.R_mono (Kd.R_far (p := ⟨gb190, 1, none⟩) (Kd.R_far (p := ⟨gb190, 0, none⟩) (Kd.R_types HO187.out BK190.out (by decide)) (fun _ hk => hk.2) (.slice Ao17 t185.length co17)) (fun _ hk => hk.2) (.int .u8 t188)) (fun _ hk => hk.1.2)⟩, ⟨by (with_reducible repeat (first | refine blk_drewN ?_ _ | refine blk_drew ?_ | refine blk_alloc ?_ _)); refine blk_far ?_ NB184_190.out _; (with_reducible repeat (first | refine blk_drewN ?_ _ | refine blk_drew ?_ | refine blk_alloc ?_ _)); refine blk_far ?_ NB184_190.out _; (with_reducible repeat (first | refine blk_drewN ?_ _ | refine blk_drew ?_ | refine blk_alloc ?_ _)); exact BK184.out⟩, ⟨by (with_reducible repeat (first | refine blk_drewN ?_ _ | refine blk_drew ?_ | refine blk_alloc ?_ _)); refine blk_put (cs := #[.slice Ao17 t185.length co17, .int .u8 0]) ?_ 1 _ rfl; (with_reducible repeat (first | refine blk_drewN ?_ _ | refine blk_drew ?_ | refine blk_alloc ?_ _)); refine blk_put (cs := #[.slice none 0 0, .int .u8 0]) ?_ 0 _ rfl; (with_reducible repeat (first | refine blk_drewN ?_ _ | refine blk_drew ?_ | refine blk_alloc ?_ _)); exact BK190.out⟩, ⟨by repeat (first | (with_reducible first | exact HB.out | apply below_alloc | apply pw_below_drewN | apply below_drew1 | refine below_set ?_ GE184.out | refine below_set ?_ GE190.out) | exact HB.out)⟩⟩
                  · rw [if_neg c23] at H
                    exact absurd H (by simp)
                · rw [if_neg c22] at H
                  exact absurd H (by simp)
              · rw [if_neg c21] at H
                have c21b0 : ((t178.size : Int) == (t177.size : Int)) = false := beq_eq_false_iff_ne.mpr c21
                have c21b1 : ((t178.size : Int) != (t177.size : Int)) = true := bne_iff_ne.mpr c21
                have c21b2 : (t178.size == t177.size) = false := by first | simpa using c21 | (simp at c21 ⊢; omega)
                have H' := Aside0.mk H
                clear H
                go_wp2
                repeat (go_quiet (fail); try go_wp2)
                go_meet
                case rel => exact ⟨_, (true), (by first | rfl | (simp; done) | (simp [*]; done)), H', ⟨by have := HJ1.out; first | omega | exact Nat.le_refl _⟩, ⟨by (with_reducible repeat (first | apply Kd.R_alloc | apply Kd.R_drewN | apply Kd.R_drew)); exact Kd.R_mono (Kd.R_far (p := ⟨gb190, 1, none⟩) (Kd.R_far (p := ⟨gb190, 0, none⟩) (Kd.R_types HO181.out BK190.out (by decide)) (fun _ hk => hk.2) (.slice Ao17 t185.length co17)) (fun _ hk => hk.2) (.int .u8 t188)) (fun _ hk => hk.1.2)⟩, ⟨by (with_reducible repeat (first | apply Kd.R_alloc | apply Kd.R_drewN | apply Kd.R_drew)); exact Kd.R_mono (Kd.R_far (p := ⟨gb190, 1, none⟩) (Kd.R_far (p := ⟨gb190, 0, none⟩) (Kd.R_types HO187.out BK190.out (by decide)) (fun _ hk => hk.2) (.slice Ao17 t185.length co17)) (fun _ hk => hk.2) (.int .u8 t188)) (fun _ hk => hk.1.2)⟩, ⟨by (with_reducible repeat (first | refine blk_drewN ?_ _ | refine blk_drew ?_ | refine blk_alloc ?_ _)); refine blk_far ?_ NB184_190.out _; (with_reducible repeat (first | refine blk_drewN ?_ _ | refine blk_drew ?_ | refine blk_alloc ?_ _)); refine blk_far ?_ NB184_190.out _; (with_reducible repeat (first | refine blk_drewN ?_ _ | refine blk_drew ?_ | refine blk_alloc ?_ _)); exact BK184.out⟩, ⟨by (with_reducible repeat (first | refine blk_drewN ?_ _ | refine blk_drew ?_ | refine blk_alloc ?_ _)); refine blk_put (cs := #[.slice Ao17 t185.length co17, .int .u8 0]) ?_ 1 _ rfl; (with_reducible repeat (first | refine blk_drewN ?_ _ | refine blk_drew ?_ | refine blk_alloc ?_ _)); refine blk_put (cs := #[.slice none 0 0, .int .u8 0]) ?_ 0 _ rfl; (with_reducible repeat (first | refine blk_drewN ?_ _ | refine blk_drew ?_ | refine blk_alloc ?_ _)); exact BK190.out⟩, ⟨by repeat (first | (with_reducible first | exact HB.out | apply below_alloc | apply pw_below_drewN | apply below_drew1 | refine below_set ?_ GE184.out | refine below_set ?_ GE190.out) | exact HB.out)⟩⟩
          · have H1 : (mandrellaw04_OpsPairs.j1 kj1 (wrap64 (Int.tmod (IntKind.u64.wrap (a0)) 29)) true t179 t182 t185 t188) = some r := by rw [if_neg (show ¬ (some q192).isNone = true by simp)] at H; exact H
            clear H
            have H := H1
            clear H1
            try simp only [errW_none, errW_some]
            have H' := Aside0.mk H
            clear H
            go_wp2
            repeat (go_quiet (fail); try go_wp2)
            go_meet
            case rel => exact ⟨_, (true), (by first | rfl | (simp; done) | (simp [*]; done)), H', ⟨by have := HJ1.out; first | omega | exact Nat.le_refl _⟩, ⟨by (with_reducible repeat (first | apply Kd.R_alloc | apply Kd.R_drewN | apply Kd.R_drew)); exact Kd.R_mono (Kd.R_far (p := ⟨gb190, 1, none⟩) (Kd.R_far (p := ⟨gb190, 0, none⟩) (Kd.R_types HO181.out BK190.out (by decide)) (fun _ hk => hk.2) (.slice Ao17 t185.length co17)) (fun _ hk => hk.2) (.int .u8 t188)) (fun _ hk => hk.1.2)⟩, ⟨by (with_reducible repeat (first | apply Kd.R_alloc | apply Kd.R_drewN | apply Kd.R_drew)); exact Kd.R_mono (Kd.R_far (p := ⟨gb190, 1, none⟩) (Kd.R_far (p := ⟨gb190, 0, none⟩) (Kd.R_types HO187.out BK190.out (by decide)) (fun _ hk => hk.2) (.slice Ao17 t185.length co17)) (fun _ hk => hk.2) (.int .u8 t188)) (fun _ hk => hk.1.2)⟩, ⟨by (with_reducible repeat (first | refine blk_drewN ?_ _ | refine blk_drew ?_ | refine blk_alloc ?_ _)); refine blk_far ?_ NB184_190.out _; (with_reducible repeat (first | refine blk_drewN ?_ _ | refine blk_drew ?_ | refine blk_alloc ?_ _)); refine blk_far ?_ NB184_190.out _; (with_reducible repeat (first | refine blk_drewN ?_ _ | refine blk_drew ?_ | refine blk_alloc ?_ _)); exact BK184.out⟩, ⟨by (with_reducible repeat (first | refine blk_drewN ?_ _ | refine blk_drew ?_ | refine blk_alloc ?_ _)); refine blk_put (cs := #[.slice Ao17 t185.length co17, .int .u8 0]) ?_ 1 _ rfl; (with_reducible repeat (first | refine blk_drewN ?_ _ | refine blk_drew ?_ | refine blk_alloc ?_ _)); refine blk_put (cs := #[.slice none 0 0, .int .u8 0]) ?_ 0 _ rfl; (with_reducible repeat (first | refine blk_drewN ?_ _ | refine blk_drew ?_ | refine blk_alloc ?_ _)); exact BK190.out⟩, ⟨by repeat (first | (with_reducible first | exact HB.out | apply below_alloc | apply pw_below_drewN | apply below_drew1 | refine below_set ?_ GE184.out | refine below_set ?_ GE190.out) | exact HB.out)⟩⟩
        · have H1 : (mandrellaw04_OpsPairs.j1 kj1 (wrap64 (Int.tmod (IntKind.u64.wrap (a0)) 29)) true t179 t182 t185 t188) = some r := by rw [if_neg (show ¬ (some q191).isNone = true by simp)] at H; exact H
          clear H
          have H := H1
          clear H1
          try simp only [errW_none, errW_some]
          have H' := Aside0.mk H
          clear H
          go_wp2
          repeat (go_quiet (fail); try go_wp2)
          go_meet
          case rel => exact ⟨_, (true), (by first | rfl | (simp; done) | (simp [*]; done)), H', ⟨by have := HJ1.out; first | omega | exact Nat.le_refl _⟩, ⟨by (with_reducible repeat (first | apply Kd.R_alloc | apply Kd.R_drewN | apply Kd.R_drew)); exact Kd.R_mono (Kd.R_far (p := ⟨gb190, 1, none⟩) (Kd.R_far (p := ⟨gb190, 0, none⟩) (Kd.R_types HO181.out BK190.out (by decide)) (fun _ hk => hk.2) (.slice Ao17 t185.length co17)) (fun _ hk => hk.2) (.int .u8 t188)) (fun _ hk => hk.1.2)⟩, ⟨by (with_reducible repeat (first | apply Kd.R_alloc | apply Kd.R_drewN | apply Kd.R_drew)); exact Kd.R_mono (Kd.R_far (p := ⟨gb190, 1, none⟩) (Kd.R_far (p := ⟨gb190, 0, none⟩) (Kd.R_types HO187.out BK190.out (by decide)) (fun _ hk => hk.2) (.slice Ao17 t185.length co17)) (fun _ hk => hk.2) (.int .u8 t188)) (fun _ hk => hk.1.2)⟩, ⟨by (with_reducible repeat (first | refine blk_drewN ?_ _ | refine blk_drew ?_ | refine blk_alloc ?_ _)); refine blk_far ?_ NB184_190.out _; (with_reducible repeat (first | refine blk_drewN ?_ _ | refine blk_drew ?_ | refine blk_alloc ?_ _)); refine blk_far ?_ NB184_190.out _; (with_reducible repeat (first | refine blk_drewN ?_ _ | refine blk_drew ?_ | refine blk_alloc ?_ _)); exact BK184.out⟩, ⟨by (with_reducible repeat (first | refine blk_drewN ?_ _ | refine blk_drew ?_ | refine blk_alloc ?_ _)); refine blk_put (cs := #[.slice Ao17 t185.length co17, .int .u8 0]) ?_ 1 _ rfl; (with_reducible repeat (first | refine blk_drewN ?_ _ | refine blk_drew ?_ | refine blk_alloc ?_ _)); refine blk_put (cs := #[.slice none 0 0, .int .u8 0]) ?_ 0 _ rfl; (with_reducible repeat (first | refine blk_drewN ?_ _ | refine blk_drew ?_ | refine blk_alloc ?_ _)); exact BK190.out⟩, ⟨by repeat (first | (with_reducible first | exact HB.out | apply below_alloc | apply pw_below_drewN | apply below_drew1 | refine below_set ?_ GE184.out | refine below_set ?_ GE190.out) | exact HB.out)⟩⟩
      case rest =>
        clear HC8
        try clear c1
        try clear q1
        try clear c2
        try clear p2
        try clear c3
        try clear c3b0
        try clear p6
        try clear c18
        try clear q19
        try clear c20
        try clear c20b0
        try clear c20b1
        try clear c21
        try clear c21b0
        try clear c21b1
        try clear c21b2
        try clear c22
        try clear c22b0
        try clear c22b1
        try clear c23
        try clear c23b0
        try clear c23b1
        try clear c24
        try clear c24b0
        try clear c24b1
        try clear c25
        try clear c25b0
        try clear c26
        try clear c26b0
        try clear c26b1
        try clear c27
        try clear c27b0
        try clear c27b1
        try clear c28
        try clear c28b0
        try clear c29
        try clear c29b0
        try clear c30
        try clear c30b0
        try clear c30b1
        try clear c31
        try clear c31b0
        try clear c31b1
        try clear c31b2
        try clear c32
        try clear c35
        try clear hcz14_0
        try clear hcz14_1
        try clear hcz19_0
        try clear hcz19_1
        try clear hcz33_0
        try clear hcz33_1
        try clear hcz34_0
        try clear hcz34_1
        try clear hcz36_0
        try clear hcz36_1
        try clear hcz37_0
        try clear hcz37_1
        try clear hfz14_0
        try clear hfz14_1
        try clear hfz19_0
        try clear hfz19_1
        try clear hfz33_0
        try clear hfz33_1
        try clear hfz34_0
        try clear hfz34_1
        try clear hfz36_0
        try clear hfz36_1
        try clear hfz37_0
        try clear hfz37_1
        try clear p2
        try clear q191
        try clear q192
        obtain ⟨kq, x97_7, rfl, HA, HJ7, HO_185000, HO_191000, BK184, BK190, HB⟩ := hcut
        cases kq with
        | zero => exact absurd HA.out (by simp [mandrellaw04_OpsPairs.j1])
        | succ kj7 =>
          have H := HA.out
          clear HA
          simp only [mandrellaw04_OpsPairs.j1] at H
          by_cases c38 : x97_7 = true
          · subst c38
            have H1 : (some false) = some r := by rw [if_pos rfl] at H; exact H
            clear H
            have H := H1
            clear H1
            obtain rfl := Option.some.inj H
            go_wp2
            repeat (go_quiet (fail); try go_wp2)
            go_ret
            exact ⟨by first | rfl | (simp [errW_none, errW_some] <;> rfl) | (simp [*, errW_none, errW_some] <;> rfl), by repeat (first | (with_reducible first | exact HB.out | apply below_alloc | apply pw_below_drewN | apply below_drew1 | refine below_set ?_ GE184.out | refine below_set ?_ GE190.out) | exact HB.out)⟩
          · replace c38 := Bool.eq_false_iff.mpr c38
            subst c38
            have H1 : (mandrellaw04_OpsPairs.l0 kj7 (wrap64 (Int.tmod (IntKind.u64.wrap (a0)) 29)) 0 t179 t182 t185 t188) = some r := by rw [if_neg (show ¬ (false = true) by decide)] at H; exact H
            clear H
            have H := H1
            clear H1
            have H' := Aside0.mk H
            clear H
            go_wp2
            repeat (go_quiet (fail); try go_wp2)
            go_loopg [12] kj7 (fun kq v12 w' => ∃ (x12_3 : Int), v12 = .int .i64 x12_3 ∧ Aside0 (mandrellaw04_OpsPairs.l0 kq (wrap64 (Int.tmod (IntKind.u64.wrap (a0)) 29)) x12_3 t179 t182 t185 t188 = some r) ∧ Aside0 (kq ≤ kj7) ∧ Aside0 (Kd.R (Kd.int .u8) 25 w' w.heap.size (fun k_ => some k_ ≠ ((.slice Ao17 t185.length co17) : Value).ownBlock) (.slice Ao13 t179.length co13) t179) ∧ Aside0 (Kd.R (Kd.int .u8) 25 w' w.heap.size (fun k_ => some k_ ≠ ((.slice Ao13 t179.length co13) : Value).ownBlock) (.slice Ao17 t185.length co17) t185) ∧ Aside0 (w'.heap[gb184]? = some (.cells #[(.slice Ao13 t179.length co13), .int .u8 t182] 27 (0, 0))) ∧ Aside0 (w'.heap[gb190]? = some (.cells #[(.slice Ao17 t185.length co17), .int .u8 t188] 27 (0, 0))) ∧ Aside0 (Below w.heap.size w w'))
            case atStart => exact ⟨(0), (by first | rfl | (simp; done) | (simp [*]; done)), H', ⟨Nat.le_refl _⟩, ⟨by (with_reducible repeat (first | apply Kd.R_alloc | apply Kd.R_drewN | apply Kd.R_drew)); exact HO_185000.out⟩, ⟨by (with_reducible repeat (first | apply Kd.R_alloc | apply Kd.R_drewN | apply Kd.R_drew)); exact HO_191000.out⟩, ⟨by (with_reducible repeat (first | refine blk_drewN ?_ _ | refine blk_drew ?_ | refine blk_alloc ?_ _)); exact BK184.out⟩, ⟨by (with_reducible repeat (first | refine blk_drewN ?_ _ | refine blk_drew ?_ | refine blk_alloc ?_ _)); exact BK190.out⟩, ⟨by repeat (first | (with_reducible first | exact HB.out | apply below_alloc | apply pw_below_drewN | apply below_drew1 | refine below_set ?_ GE184.out | refine below_set ?_ GE190.out) | exact HB.out)⟩⟩
            case round =>
              clear H'
              try clear c1
              try clear q1
              try clear c2
              try clear p2
              try clear c3
              try clear c3b0
              try clear p6
              try clear c18
              try clear q19
              try clear c20
              try clear c20b0
              try clear c20b1
              try clear c21
              try clear c21b0
              try clear c21b1
              try clear c21b2
              try clear c22
              try clear c22b0
              try clear c22b1
              try clear c23
              try clear c23b0
              try clear c23b1
              try clear c24
              try clear c24b0
              try clear c24b1
              try clear c25
              try clear c25b0
              try clear c26
              try clear c26b0
              try clear c26b1
              try clear c27
              try clear c27b0
              try clear c27b1
              try clear c28
              try clear c28b0
              try clear c29
              try clear c29b0
              try clear c30
              try clear c30b0
              try clear c30b1
              try clear c31
              try clear c31b0
              try clear c31b1
              try clear c31b2
              try clear c32
              try clear c35
              try clear c38
              try clear hcz14_0
              try clear hcz14_1
              try clear hcz19_0
              try clear hcz19_1
              try clear hcz33_0
              try clear hcz33_1
              try clear hcz34_0
              try clear hcz34_1
              try clear hcz36_0
              try clear hcz36_1
              try clear hcz37_0
              try clear hcz37_1
              try clear hfz14_0
              try clear hfz14_1
              try clear hfz19_0
              try clear hfz19_1
              try clear hfz33_0
              try clear hfz33_1
              try clear hfz34_0
              try clear hfz34_1
              try clear hfz36_0
              try clear hfz36_1
              try clear hfz37_0
              try clear hfz37_1
              try clear p2
              try clear p6
              try clear q1
              try clear q19
              try clear q191
              try clear q192
              obtain ⟨x12_3, rfl, HA, HK3, HO_185000, HO_191000, BK184, BK190, HB⟩ := hrel
              cases gk with
              | zero => exact absurd HA.out (by simp [mandrellaw04_OpsPairs.l0])
              | succ k3 =>
                have H := HA.out
                clear HA
                simp only [mandrellaw04_OpsPairs.l0] at H
                by_cases c39 : x12_3 < (t179.length : Int)
                · rw [if_pos c39] at H
                  have c39b0 : decide (x12_3 < (t179.length : Int)) = true := decide_eq_true c39
                  clear c39
                  by_cases c40 : 0 ≤ x12_3
                  · rw [if_pos c40] at H
                    have c40b0 : decide (0 ≤ x12_3) = true := decide_eq_true c40
                    clear c40
                    by_cases c41 : (rd t179 x12_3) = 127
                    · rw [if_pos c41] at H
                      have c41b0 : ((rd t179 x12_3) == 127) = true := beq_iff_eq.mpr c41
                      have c41b1 : ((rd t179 x12_3) != 127) = false := bne_eq_false_iff_eq.mpr c41
                      clear c41
                      by_cases c42 : x12_3 < (t185.length : Int)
                      · rw [if_pos c42] at H
                        have c42b0 : decide (x12_3 < (t185.length : Int)) = true := decide_eq_true c42
                        clear c42
                        by_cases c43 : (rd t185 x12_3) = 126
                        · rw [if_pos c43] at H
                          have c43b0 : ((rd t185 x12_3) == 126) = true := beq_iff_eq.mpr c43
                          have c43b1 : ((rd t185 x12_3) != 126) = false := bne_eq_false_iff_eq.mpr c43
                          clear c43
                          have H' := Aside0.mk H
                          clear H
                          have hnb44 := NB184_190.out
                          have hnc44 := NB190_184.out
                          have hcz45_0 : wr.cell? ⟨gb184, 0, none⟩ = some (.slice Ao13 t179.length co13) := (blk_cell BK184.out 0).trans rfl
                          have hcz45_1 : wr.cell? ⟨gb184, 1, none⟩ = some (.int .u8 t182) := (blk_cell BK184.out 1).trans rfl
                          have hfz45_0 := blk_frozen BK184.out 0
                          have hfz45_1 := blk_frozen BK184.out 1
                          have p193 : 0 ≤ (x12_3 : Int) := of_decide_eq_true (by first | (with_reducible assumption) | assumption)
                          have q193 : x12_3 < (t179.length : Int) := of_decide_eq_true (by first | (with_reducible assumption) | assumption)
                          obtain ⟨ad193, e193, hx193_0⟩ := Kd.at_int (Kd.R_reads' HO_185000.out).2.2 x12_3 p193 q193
                          cases e193
                          replace p193 := eq_true p193
                          replace q193 := eq_true q193
                          have hcz46_0 : wr.cell? ⟨gb190, 0, none⟩ = some (.slice Ao17 t185.length co17) := (blk_cell BK190.out 0).trans rfl
                          have hcz46_1 : wr.cell? ⟨gb190, 1, none⟩ = some (.int .u8 t188) := (blk_cell BK190.out 1).trans rfl
                          have hfz46_0 := blk_frozen BK190.out 0
                          have hfz46_1 := blk_frozen BK190.out 1
                          have p194 : 0 ≤ (x12_3 : Int) := of_decide_eq_true (by first | (with_reducible assumption) | assumption)
                          have q194 : x12_3 < (t185.length : Int) := of_decide_eq_true (by first | (with_reducible assumption) | assumption)
                          obtain ⟨ad194, e194, hx194_0⟩ := Kd.at_int (Kd.R_reads' HO_191000.out).2.2 x12_3 p194 q194
                          cases e194
                          replace p194 := eq_true p194
                          replace q194 := eq_true q194
                          go_wp2
                          repeat (go_quiet (fail); try go_wp2)
                          go_roundg k3
                          case measure => have := HJ1.out; have := HJ7.out; have := HK3.out; omega
                          case rel => exact ⟨(wrap64 (x12_3 + 1)), (by first | rfl | (simp; done) | (simp [*]; done)), H', ⟨by have := HJ1.out; have := HJ7.out; have := HK3.out; omega⟩, ⟨by (with_reducible repeat (first | apply Kd.R_alloc | apply Kd.R_drewN | apply Kd.R_drew)); exact HO_185000.out⟩, ⟨by (with_reducible repeat (first | apply Kd.R_alloc | apply Kd.R_drewN | apply Kd.R_drew)); exact HO_191000.out⟩, ⟨by (with_reducible repeat (first | refine blk_drewN ?_ _ | refine blk_drew ?_ | refine blk_alloc ?_ _)); exact BK184.out⟩, ⟨by (with_reducible repeat (first | refine blk_drewN ?_ _ | refine blk_drew ?_ | refine blk_alloc ?_ _)); exact BK190.out⟩, ⟨by repeat (first | (with_reducible first | exact HB.out | apply below_alloc | apply pw_below_drewN | apply below_drew1 | refine below_set ?_ GE184.out | refine below_set ?_ GE190.out) | exact HB.out)⟩⟩
                        · rw [if_neg c43] at H
                          have c43b0 : ((rd t185 x12_3) == 126) = false := beq_eq_false_iff_ne.mpr c43
                          have c43b1 : ((rd t185 x12_3) != 126) = true := bne_iff_ne.mpr c43
                          obtain rfl := Option.some.inj H
                          have hnb47 := NB184_190.out
                          have hnc47 := NB190_184.out
                          have hcz48_0 : wr.cell? ⟨gb184, 0, none⟩ = some (.slice Ao13 t179.length co13) := (blk_cell BK184.out 0).trans rfl
                          have hcz48_1 : wr.cell? ⟨gb184, 1, none⟩ = some (.int .u8 t182) := (blk_cell BK184.out 1).trans rfl
                          have hfz48_0 := blk_frozen BK184.out 0
                          have hfz48_1 := blk_frozen BK184.out 1
                          have p193 : 0 ≤ (x12_3 : Int) := of_decide_eq_true (by first | (with_reducible assumption) | assumption)
                          have q193 : x12_3 < (t179.length : Int) := of_decide_eq_true (by first | (with_reducible assumption) | assumption)
                          obtain ⟨ad193, e193, hx193_0⟩ := Kd.at_int (Kd.R_reads' HO_185000.out).2.2 x12_3 p193 q193
                          cases e193
                          replace p193 := eq_true p193
                          replace q193 := eq_true q193
                          have hcz49_0 : wr.cell? ⟨gb190, 0, none⟩ = some (.slice Ao17 t185.length co17) := (blk_cell BK190.out 0).trans rfl
                          have hcz49_1 : wr.cell? ⟨gb190, 1, none⟩ = some (.int .u8 t188) := (blk_cell BK190.out 1).trans rfl
                          have hfz49_0 := blk_frozen BK190.out 0
                          have hfz49_1 := blk_frozen BK190.out 1
                          have p194 : 0 ≤ (x12_3 : Int) := of_decide_eq_true (by first | (with_reducible assumption) | assumption)
                          have q194 : x12_3 < (t185.length : Int) := of_decide_eq_true (by first | (with_reducible assumption) | assumption)
                          obtain ⟨ad194, e194, hx194_0⟩ := Kd.at_int (Kd.R_reads' HO_191000.out).2.2 x12_3 p194 q194
                          cases e194
                          replace p194 := eq_true p194
                          replace q194 := eq_true q194
                          go_wp2
                          repeat (go_quiet (fail); try go_wp2)
                          go_ret
                          exact ⟨by first | rfl | (simp [errW_none, errW_some] <;> rfl) | (simp [*, errW_none, errW_some] <;> rfl), by repeat (first | (with_reducible first | exact HB.out | apply below_alloc | apply pw_below_drewN | apply below_drew1 | refine below_set ?_ GE184.out | refine below_set ?_ GE190.out) | exact HB.out)⟩
                      · rw [if_neg c42] at H
                        exact absurd H (by simp)
                    · rw [if_neg c41] at H
                      have c41b0 : ((rd t179 x12_3) == 127) = false := beq_eq_false_iff_ne.mpr c41
                      have c41b1 : ((rd t179 x12_3) != 127) = true := bne_iff_ne.mpr c41
                      obtain rfl := Option.some.inj H
                      have hnb50 := NB184_190.out
                      have hnc50 := NB190_184.out
                      have hcz51_0 : wr.cell? ⟨gb184, 0, none⟩ = some (.slice Ao13 t179.length co13) := (blk_cell BK184.out 0).trans rfl
                      have hcz51_1 : wr.cell? ⟨gb184, 1, none⟩ = some (.int .u8 t182) := (blk_cell BK184.out 1).trans rfl
                      have hfz51_0 := blk_frozen BK184.out 0
                      have hfz51_1 := blk_frozen BK184.out 1
                      have p193 : 0 ≤ (x12_3 : Int) := of_decide_eq_true (by first | (with_reducible assumption) | assumption)
                      have q193 : x12_3 < (t179.length : Int) := of_decide_eq_true (by first | (with_reducible assumption) | assumption)
                      obtain ⟨ad193, e193, hx193_0⟩ := Kd.at_int (Kd.R_reads' HO_185000.out).2.2 x12_3 p193 q193
                      cases e193
                      replace p193 := eq_true p193
                      replace q193 := eq_true q193
                      go_wp2
                      repeat (go_quiet (fail); try go_wp2)
                      go_ret
                      exact ⟨by first | rfl | (simp [errW_none, errW_some] <;> rfl) | (simp [*, errW_none, errW_some] <;> rfl), by repeat (first | (with_reducible first | exact HB.out | apply below_alloc | apply pw_below_drewN | apply below_drew1 | refine below_set ?_ GE184.out | refine below_set ?_ GE190.out) | exact HB.out)⟩
                  · rw [if_neg c40] at H
                    exact absurd H (by simp)
                · rw [if_neg c39] at H
                  have c39b0 : decide (x12_3 < (t179.length : Int)) = false := decide_eq_false c39
                  clear c39
                  by_cases c52 : (wrap64 (Int.tmod (IntKind.u64.wrap (a0)) 29)) ≤ 10
                  · rw [if_pos c52] at H
                    have c52b0 : decide ((wrap64 (Int.tmod (IntKind.u64.wrap (a0)) 29)) ≤ 10) = true := decide_eq_true c52
                    clear c52
                    by_cases c53 : t182 = 127
                    · rw [if_pos c53] at H
                      have c53b0 : (t182 == 127) = true := beq_iff_eq.mpr c53
                      have c53b1 : (t182 != 127) = false := bne_eq_false_iff_eq.mpr c53
                      clear c53
                      by_cases c54 : t188 = 127
                      · rw [if_pos c54] at H
                        have c54b0 : (t188 == 127) = true := beq_iff_eq.mpr c54
                        have c54b1 : (t188 != 127) = false := bne_eq_false_iff_eq.mpr c54
                        clear c54
                        replace H := Option.bind_eq_some_iff.mp H
                        obtain ⟨t195, A550, H⟩ := H
                        replace H : (some t195) = some r := H
                        have A55 := Aside0.mk A550
                        clear A550
                        obtain rfl := Option.some.inj H
                        have hnb56 := NB184_190.out
                        have hnc56 := NB190_184.out
                        have hcz57_0 : wr.cell? ⟨gb184, 0, none⟩ = some (.slice Ao13 t179.length co13) := (blk_cell BK184.out 0).trans rfl
                        have hcz57_1 : wr.cell? ⟨gb184, 1, none⟩ = some (.int .u8 t182) := (blk_cell BK184.out 1).trans rfl
                        have hfz57_0 := blk_frozen BK184.out 0
                        have hfz57_1 := blk_frozen BK184.out 1
                        have hcz58_0 : wr.cell? ⟨gb190, 0, none⟩ = some (.slice Ao17 t185.length co17) := (blk_cell BK190.out 0).trans rfl
                        have hcz58_1 : wr.cell? ⟨gb190, 1, none⟩ = some (.int .u8 t188) := (blk_cell BK190.out 1).trans rfl
                        have hfz58_0 := blk_frozen BK190.out 0
                        have hfz58_1 := blk_frozen BK190.out 1
                        go_wp2_with (first | (go_at_call 7; (with_reducible refine (mandrellaw04_sure.calls k3  t195 _ ?side1 A55.out).mono ?_); (case side1 => first | exact HG.out | exact GG.below (by repeat (first | (with_reducible first | exact HB.out | apply below_alloc | apply pw_below_drewN | apply below_drew1 | refine below_set ?_ GE184.out | refine below_set ?_ GE190.out) | exact HB.out)) HG.out | exact GG.drawn (by assumption) HG.out); rintro e w59 ⟨rfl, hb⟩; have n0_ := Aside0.mk (Kd.R_below (by (with_reducible repeat (first | apply Kd.R_alloc | apply Kd.R_drewN | apply Kd.R_drew)); exact HO_185000.out) hb); have n1_ := Aside0.mk (Kd.R_below (by (with_reducible repeat (first | apply Kd.R_alloc | apply Kd.R_drewN | apply Kd.R_drew)); exact HO_191000.out) hb); have n2_ := Aside0.mk (blk_below (g := gb184) (o := .cells #[.slice Ao13 t179.length co13, .int .u8 t182] 27 (0, 0)) (by (with_reducible repeat (first | refine blk_drewN ?_ _ | refine blk_drew ?_ | refine blk_alloc ?_ _)); exact BK184.out) hb); have n3_ := Aside0.mk (blk_below (g := gb190) (o := .cells #[.slice Ao17 t185.length co17, .int .u8 t188] 27 (0, 0)) (by (with_reducible repeat (first | refine blk_drewN ?_ _ | refine blk_drew ?_ | refine blk_alloc ?_ _)); exact BK190.out) hb); have n4_ := Aside0.mk (below_step (by repeat (first | (with_reducible first | exact HB.out | apply below_alloc | apply pw_below_drewN | apply below_drew1 | refine below_set ?_ GE184.out | refine below_set ?_ GE190.out) | exact HB.out)) hb); clear HO_185000; clear HO_191000; clear BK184; clear BK190; clear HB; have HO_185000 := n0_; have HO_191000 := n1_; have BK184 := n2_; have BK190 := n3_; have HB := n4_; clear n0_ n1_ n2_ n3_ n4_; (try clear hb); (try clear hb2); (try clear hk); (try clear hi)))
                        repeat (go_quiet (first | (go_at_call 7; (with_reducible refine (mandrellaw04_sure.calls k3  t195 _ ?side1 A55.out).mono ?_); (case side1 => first | exact HG.out | exact GG.below (by repeat (first | (with_reducible first | exact HB.out | apply below_alloc | apply pw_below_drewN | apply below_drew1 | refine below_set ?_ GE184.out | refine below_set ?_ GE190.out) | exact HB.out)) HG.out | exact GG.drawn (by assumption) HG.out); rintro e w59 ⟨rfl, hb⟩; have n0_ := Aside0.mk (Kd.R_below (by (with_reducible repeat (first | apply Kd.R_alloc | apply Kd.R_drewN | apply Kd.R_drew)); exact HO_185000.out) hb); have n1_ := Aside0.mk (Kd.R_below (by (with_reducible repeat (first | apply Kd.R_alloc | apply Kd.R_drewN | apply Kd.R_drew)); exact HO_191000.out) hb); have n2_ := Aside0.mk (blk_below (g := gb184) (o := .cells #[.slice Ao13 t179.length co13, .int .u8 t182] 27 (0, 0)) (by (with_reducible repeat (first | refine blk_drewN ?_ _ | refine blk_drew ?_ | refine blk_alloc ?_ _)); exact BK184.out) hb); have n3_ := Aside0.mk (blk_below (g := gb190) (o := .cells #[.slice Ao17 t185.length co17, .int .u8 t188] 27 (0, 0)) (by (with_reducible repeat (first | refine blk_drewN ?_ _ | refine blk_drew ?_ | refine blk_alloc ?_ _)); exact BK190.out) hb); have n4_ := Aside0.mk (below_step (by repeat (first | (with_reducible first | exact HB.out | apply below_alloc | apply pw_below_drewN | apply below_drew1 | refine below_set ?_ GE184.out | refine below_set ?_ GE190.out) | exact HB.out)) hb); clear HO_185000; clear HO_191000; clear BK184; clear BK190; clear HB; have HO_185000 := n0_; have HO_191000 := n1_; have BK184 := n2_; have BK190 := n3_; have HB := n4_; clear n0_ n1_ n2_ n3_ n4_; (try clear hb); (try clear hb2); (try clear hk); (try clear hi))); try go_wp2_with (first | (go_at_call 7; (with_reducible refine (mandrellaw04_sure.calls k3  t195 _ ?side1 A55.out).mono ?_); (case side1 => first | exact HG.out | exact GG.below (by repeat (first | (with_reducible first | exact HB.out | apply below_alloc | apply pw_below_drewN | apply below_drew1 | refine below_set ?_ GE184.out | refine below_set ?_ GE190.out) | exact HB.out)) HG.out | exact GG.drawn (by assumption) HG.out); rintro e w59 ⟨rfl, hb⟩; have n0_ := Aside0.mk (Kd.R_below (by (with_reducible repeat (first | apply Kd.R_alloc | apply Kd.R_drewN | apply Kd.R_drew)); exact HO_185000.out) hb); have n1_ := Aside0.mk (Kd.R_below (by (with_reducible repeat (first | apply Kd.R_alloc | apply Kd.R_drewN | apply Kd.R_drew)); exact HO_191000.out) hb); have n2_ := Aside0.mk (blk_below (g := gb184) (o := .cells #[.slice Ao13 t179.length co13, .int .u8 t182] 27 (0, 0)) (by (with_reducible repeat (first | refine blk_drewN ?_ _ | refine blk_drew ?_ | refine blk_alloc ?_ _)); exact BK184.out) hb); have n3_ := Aside0.mk (blk_below (g := gb190) (o := .cells #[.slice Ao17 t185.length co17, .int .u8 t188] 27 (0, 0)) (by (with_reducible repeat (first | refine blk_drewN ?_ _ | refine blk_drew ?_ | refine blk_alloc ?_ _)); exact BK190.out) hb); have n4_ := Aside0.mk (below_step (by repeat (first | (with_reducible first | exact HB.out | apply below_alloc | apply pw_below_drewN | apply below_drew1 | refine below_set ?_ GE184.out | refine below_set ?_ GE190.out) | exact HB.out)) hb); clear HO_185000; clear HO_191000; clear BK184; clear BK190; clear HB; have HO_185000 := n0_; have HO_191000 := n1_; have BK184 := n2_; have BK190 := n3_; have HB := n4_; clear n0_ n1_ n2_ n3_ n4_; (try clear hb); (try clear hb2); (try clear hk); (try clear hi))))
                        go_ret
                        exact ⟨by first | rfl | (simp [errW_none, errW_some] <;> rfl) | (simp [*, errW_none, errW_some] <;> rfl), by repeat (first | (with_reducible first | exact HB.out | apply below_alloc | apply pw_below_drewN | apply below_drew1 | refine below_set ?_ GE184.out | refine below_set ?_ GE190.out) | exact HB.out)⟩
                      · rw [if_neg c54] at H
                        have c54b0 : (t188 == 127) = false := beq_eq_false_iff_ne.mpr c54
                        have c54b1 : (t188 != 127) = true := bne_iff_ne.mpr c54
                        obtain rfl := Option.some.inj H
                        have hnb60 := NB184_190.out
                        have hnc60 := NB190_184.out
                        have hcz61_0 : wr.cell? ⟨gb184, 0, none⟩ = some (.slice Ao13 t179.length co13) := (blk_cell BK184.out 0).trans rfl
                        have hcz61_1 : wr.cell? ⟨gb184, 1, none⟩ = some (.int .u8 t182) := (blk_cell BK184.out 1).trans rfl
                        have hfz61_0 := blk_frozen BK184.out 0
                        have hfz61_1 := blk_frozen BK184.out 1
                        have hcz62_0 : wr.cell? ⟨gb190, 0, none⟩ = some (.slice Ao17 t185.length co17) := (blk_cell BK190.out 0).trans rfl
                        have hcz62_1 : wr.cell? ⟨gb190, 1, none⟩ = some (.int .u8 t188) := (blk_cell BK190.out 1).trans rfl
                        have hfz62_0 := blk_frozen BK190.out 0
                        have hfz62_1 := blk_frozen BK190.out 1
                        go_wp2
                        repeat (go_quiet (fail); try go_wp2)
                        go_ret
                        exact ⟨by first | rfl | (simp [errW_none, errW_some] <;> rfl) | (simp [*, errW_none, errW_some] <;> rfl), by repeat (first | (with_reducible first | exact HB.out | apply below_alloc | apply pw_below_drewN | apply below_drew1 | refine below_set ?_ GE184.out | refine below_set ?_ GE190.out) | exact HB.out)⟩
                    · rw [if_neg c53] at H
                      have c53b0 : (t182 == 127) = false := beq_eq_false_iff_ne.mpr c53
                      have c53b1 : (t182 != 127) = true := bne_iff_ne.mpr c53
                      obtain rfl := Option.some.inj H
                      have hnb63 := NB184_190.out
                      have hnc63 := NB190_184.out
                      have hcz64_0 : wr.cell? ⟨gb184, 0, none⟩ = some (.slice Ao13 t179.length co13) := (blk_cell BK184.out 0).trans rfl
                      have hcz64_1 : wr.cell? ⟨gb184, 1, none⟩ = some (.int .u8 t182) := (blk_cell BK184.out 1).trans rfl
                      have hfz64_0 := blk_frozen BK184.out 0
                      have hfz64_1 := blk_frozen BK184.out 1
                      go_wp2
                      repeat (go_quiet (fail); try go_wp2)
                      go_ret
                      exact ⟨by first | rfl | (simp [errW_none, errW_some] <;> rfl) | (simp [*, errW_none, errW_some] <;> rfl), by repeat (first | (with_reducible first | exact HB.out | apply below_alloc | apply pw_below_drewN | apply below_drew1 | refine below_set ?_ GE184.out | refine below_set ?_ GE190.out) | exact HB.out)⟩
                  · rw [if_neg c52] at H
                    have c52b0 : decide ((wrap64 (Int.tmod (IntKind.u64.wrap (a0)) 29)) ≤ 10) = false := decide_eq_false c52
                    clear c52
                    by_cases c65 : t182 = 127
                    · rw [if_pos c65] at H
                      have c65b0 : (t182 == 127) = true := beq_iff_eq.mpr c65
                      have c65b1 : (t182 != 127) = false := bne_eq_false_iff_eq.mpr c65
                      clear c65
                      by_cases c66 : t188 = 126
                      · rw [if_pos c66] at H
                        have c66b0 : (t188 == 126) = true := beq_iff_eq.mpr c66
                        have c66b1 : (t188 != 126) = false := bne_eq_false_iff_eq.mpr c66
                        clear c66
                        replace H := Option.bind_eq_some_iff.mp H
                        obtain ⟨t196, A670, H⟩ := H
                        replace H : (some t196) = some r := H
                        have A67 := Aside0.mk A670
                        clear A670
                        obtain rfl := Option.some.inj H
                        have hnb68 := NB184_190.out
                        have hnc68 := NB190_184.out
                        have hcz69_0 : wr.cell? ⟨gb184, 0, none⟩ = some (.slice Ao13 t179.length co13) := (blk_cell BK184.out 0).trans rfl
                        have hcz69_1 : wr.cell? ⟨gb184, 1, none⟩ = some (.int .u8 t182) := (blk_cell BK184.out 1).trans rfl
                        have hfz69_0 := blk_frozen BK184.out 0
                        have hfz69_1 := blk_frozen BK184.out 1
                        have hcz70_0 : wr.cell? ⟨gb190, 0, none⟩ = some (.slice Ao17 t185.length co17) := (blk_cell BK190.out 0).trans rfl
                        have hcz70_1 : wr.cell? ⟨gb190, 1, none⟩ = some (.int .u8 t188) := (blk_cell BK190.out 1).trans rfl
                        have hfz70_0 := blk_frozen BK190.out 0
                        have hfz70_1 := blk_frozen BK190.out 1
                        go_wp2_with (first | (go_at_call 7; (with_reducible refine (mandrellaw04_sure.calls k3  t196 _ ?side1 A67.out).mono ?_); (case side1 => first | exact HG.out | exact GG.below (by repeat (first | (with_reducible first | exact HB.out | apply below_alloc | apply pw_below_drewN | apply below_drew1 | refine below_set ?_ GE184.out | refine below_set ?_ GE190.out) | exact HB.out)) HG.out | exact GG.drawn (by assumption) HG.out); rintro e w71 ⟨rfl, hb⟩; have n0_ := Aside0.mk (Kd.R_below (by (with_reducible repeat (first | apply Kd.R_alloc | apply Kd.R_drewN | apply Kd.R_drew)); exact HO_185000.out) hb); have n1_ := Aside0.mk (Kd.R_below (by (with_reducible repeat (first | apply Kd.R_alloc | apply Kd.R_drewN | apply Kd.R_drew)); exact HO_191000.out) hb); have n2_ := Aside0.mk (blk_below (g := gb184) (o := .cells #[.slice Ao13 t179.length co13, .int .u8 t182] 27 (0, 0)) (by (with_reducible repeat (first | refine blk_drewN ?_ _ | refine blk_drew ?_ | refine blk_alloc ?_ _)); exact BK184.out) hb); have n3_ := Aside0.mk (blk_below (g := gb190) (o := .cells #[.slice Ao17 t185.length co17, .int .u8 t188] 27 (0, 0)) (by (with_reducible repeat (first | refine blk_drewN ?_ _ | refine blk_drew ?_ | refine blk_alloc ?_ _)); exact BK190.out) hb); have n4_ := Aside0.mk (below_step (by repeat (first | (with_reducible first | exact HB.out | apply below_alloc | apply pw_below_drewN | apply below_drew1 | refine below_set ?_ GE184.out | refine below_set ?_ GE190.out) | exact HB.out)) hb); clear HO_185000; clear HO_191000; clear BK184; clear BK190; clear HB; have HO_185000 := n0_; have HO_191000 := n1_; have BK184 := n2_; have BK190 := n3_; have HB := n4_; clear n0_ n1_ n2_ n3_ n4_; (try clear hb); (try clear hb2); (try clear hk); (try clear hi)))
                        repeat (go_quiet (first | (go_at_call 7; (with_reducible refine (mandrellaw04_sure.calls k3  t196 _ ?side1 A67.out).mono ?_); (case side1 => first | exact HG.out | exact GG.below (by repeat (first | (with_reducible first | exact HB.out | apply below_alloc | apply pw_below_drewN | apply below_drew1 | refine below_set ?_ GE184.out | refine below_set ?_ GE190.out) | exact HB.out)) HG.out | exact GG.drawn (by assumption) HG.out); rintro e w71 ⟨rfl, hb⟩; have n0_ := Aside0.mk (Kd.R_below (by (with_reducible repeat (first | apply Kd.R_alloc | apply Kd.R_drewN | apply Kd.R_drew)); exact HO_185000.out) hb); have n1_ := Aside0.mk (Kd.R_below (by (with_reducible repeat (first | apply Kd.R_alloc | apply Kd.R_drewN | apply Kd.R_drew)); exact HO_191000.out) hb); have n2_ := Aside0.mk (blk_below (g := gb184) (o := .cells #[.slice Ao13 t179.length co13, .int .u8 t182] 27 (0, 0)) (by (with_reducible repeat (first | refine blk_drewN ?_ _ | refine blk_drew ?_ | refine blk_alloc ?_ _)); exact BK184.out) hb); have n3_ := Aside0.mk (blk_below (g := gb190) (o := .cells #[.slice Ao17 t185.length co17, .int .u8 t188] 27 (0, 0)) (by (with_reducible repeat (first | refine blk_drewN ?_ _ | refine blk_drew ?_ | refine blk_alloc ?_ _)); exact BK190.out) hb); have n4_ := Aside0.mk (below_step (by repeat (first | (with_reducible first | exact HB.out | apply below_alloc | apply pw_below_drewN | apply below_drew1 | refine below_set ?_ GE184.out | refine below_set ?_ GE190.out) | exact HB.out)) hb); clear HO_185000; clear HO_191000; clear BK184; clear BK190; clear HB; have HO_185000 := n0_; have HO_191000 := n1_; have BK184 := n2_; have BK190 := n3_; have HB := n4_; clear n0_ n1_ n2_ n3_ n4_; (try clear hb); (try clear hb2); (try clear hk); (try clear hi))); try go_wp2_with (first | (go_at_call 7; (with_reducible refine (mandrellaw04_sure.calls k3  t196 _ ?side1 A67.out).mono ?_); (case side1 => first | exact HG.out | exact GG.below (by repeat (first | (with_reducible first | exact HB.out | apply below_alloc | apply pw_below_drewN | apply below_drew1 | refine below_set ?_ GE184.out | refine below_set ?_ GE190.out) | exact HB.out)) HG.out | exact GG.drawn (by assumption) HG.out); rintro e w71 ⟨rfl, hb⟩; have n0_ := Aside0.mk (Kd.R_below (by (with_reducible repeat (first | apply Kd.R_alloc | apply Kd.R_drewN | apply Kd.R_drew)); exact HO_185000.out) hb); have n1_ := Aside0.mk (Kd.R_below (by (with_reducible repeat (first | apply Kd.R_alloc | apply Kd.R_drewN | apply Kd.R_drew)); exact HO_191000.out) hb); have n2_ := Aside0.mk (blk_below (g := gb184) (o := .cells #[.slice Ao13 t179.length co13, .int .u8 t182] 27 (0, 0)) (by (with_reducible repeat (first | refine blk_drewN ?_ _ | refine blk_drew ?_ | refine blk_alloc ?_ _)); exact BK184.out) hb); have n3_ := Aside0.mk (blk_below (g := gb190) (o := .cells #[.slice Ao17 t185.length co17, .int .u8 t188] 27 (0, 0)) (by (with_reducible repeat (first | refine blk_drewN ?_ _ | refine blk_drew ?_ | refine blk_alloc ?_ _)); exact BK190.out) hb); have n4_ := Aside0.mk (below_step (by repeat (first | (with_reducible first | exact HB.out | apply below_alloc | apply pw_below_drewN | apply below_drew1 | refine below_set ?_ GE184.out | refine below_set ?_ GE190.out) | exact HB.out)) hb); clear HO_185000; clear HO_191000; clear BK184; clear BK190; clear HB; have HO_185000 := n0_; have HO_191000 := n1_; have BK184 := n2_; have BK190 := n3_; have HB := n4_; clear n0_ n1_ n2_ n3_ n4_; (try clear hb); (try clear hb2); (try clear hk); (try clear hi))))
                        go_ret
                        exact ⟨by first | rfl | (simp [errW_none, errW_some] <;> rfl) | (simp [*, errW_none, errW_some] <;> rfl), by repeat (first | (with_reducible first | exact HB.out | apply below_alloc | apply pw_below_drewN | apply below_drew1 | refine below_set ?_ GE184.out | refine below_set ?_ GE190.out) | exact HB.out)⟩
                      · rw [if_neg c66] at H
                        have c66b0 : (t188 == 126) = false := beq_eq_false_iff_ne.mpr c66
                        have c66b1 : (t188 != 126) = true := bne_iff_ne.mpr c66
                        obtain rfl := Option.some.inj H
                        have hnb72 := NB184_190.out
                        have hnc72 := NB190_184.out
                        have hcz73_0 : wr.cell? ⟨gb184, 0, none⟩ = some (.slice Ao13 t179.length co13) := (blk_cell BK184.out 0).trans rfl
                        have hcz73_1 : wr.cell? ⟨gb184, 1, none⟩ = some (.int .u8 t182) := (blk_cell BK184.out 1).trans rfl
                        have hfz73_0 := blk_frozen BK184.out 0
                        have hfz73_1 := blk_frozen BK184.out 1
                        have hcz74_0 : wr.cell? ⟨gb190, 0, none⟩ = some (.slice Ao17 t185.length co17) := (blk_cell BK190.out 0).trans rfl
                        have hcz74_1 : wr.cell? ⟨gb190, 1, none⟩ = some (.int .u8 t188) := (blk_cell BK190.out 1).trans rfl
                        have hfz74_0 := blk_frozen BK190.out 0
                        have hfz74_1 := blk_frozen BK190.out 1
                        go_wp2
                        repeat (go_quiet (fail); try go_wp2)
                        go_ret
                        exact ⟨by first | rfl | (simp [errW_none, errW_some] <;> rfl) | (simp [*, errW_none, errW_some] <;> rfl), by repeat (first | (with_reducible first | exact HB.out | apply below_alloc | apply pw_below_drewN | apply below_drew1 | refine below_set ?_ GE184.out | refine below_set ?_ GE190.out) | exact HB.out)⟩
                    · rw [if_neg c65] at H
                      have c65b0 : (t182 == 127) = false := beq_eq_false_iff_ne.mpr c65
                      have c65b1 : (t182 != 127) = true := bne_iff_ne.mpr c65
                      obtain rfl := Option.some.inj H
                      have hnb75 := NB184_190.out
                      have hnc75 := NB190_184.out
                      have hcz76_0 : wr.cell? ⟨gb184, 0, none⟩ = some (.slice Ao13 t179.length co13) := (blk_cell BK184.out 0).trans rfl
                      have hcz76_1 : wr.cell? ⟨gb184, 1, none⟩ = some (.int .u8 t182) := (blk_cell BK184.out 1).trans rfl
                      have hfz76_0 := blk_frozen BK184.out 0
                      have hfz76_1 := blk_frozen BK184.out 1
                      go_wp2
                      repeat (go_quiet (fail); try go_wp2)
                      go_ret
                      exact ⟨by first | rfl | (simp [errW_none, errW_some] <;> rfl) | (simp [*, errW_none, errW_some] <;> rfl), by repeat (first | (with_reducible first | exact HB.out | apply below_alloc | apply pw_below_drewN | apply below_drew1 | refine below_set ?_ GE184.out | refine below_set ?_ GE190.out) | exact HB.out)⟩

/-- THE ONE PURE STATEMENT of mandrellaw04_OpsPairs: yours. -/
def mandrellaw04_OpsPairs.Pure : Prop := ∀ (a0 : Int), (Lit.int .i64 a0).wf = true → ∃ k, mandrellaw04_OpsPairs.f k a0 = some true
theorem mandrellaw04_OpsPairs.walk (P : mandrellaw04_OpsPairs.Pure) (a0 : Int) (w : World) (w0 : (Lit.int .i64 a0).wf = true) (hG : GG [0] w) :
    Calls Try.prog 3 #[.int .i64 a0] w fun e w' => e = .returned (.bool true) ∧ Below w.heap.size w w' := by
  obtain ⟨k, h⟩ := P a0 w0
  refine (mandrellaw04_OpsPairs.calls k a0 true w hG h).mono ?_
  rintro e w' ⟨rfl, hd⟩
  exact ⟨rfl, hd⟩

end Go.Proofs.Ythgkeehpoilgaaa.Hy

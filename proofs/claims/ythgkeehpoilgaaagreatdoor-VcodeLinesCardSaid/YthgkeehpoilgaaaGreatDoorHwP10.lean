import Derived.Outline
import Derived.Lib.Hide
import Derived.Test.YthgkeehpoilgaaaGreatDoorProg
import Derived.LoopTactic
import Derived.Deep.QuietTactic
import Derived.BigQuiet
import Derived.Test.YthgkeehpoilgaaaGreatDoorHwP2
import Derived.Test.YthgkeehpoilgaaaGreatDoorHwP8
import Derived.Test.YthgkeehpoilgaaaGreatDoorHwP9
section
namespace Go.Proofs.YthgkeehpoilgaaaGreatDoor.Hw
open Go.RowKit Go.Proofs.YthgkeehpoilgaaaGreatDoorW.PrintWords Go.Proofs.YthgkeehpoilgaaaGreatDoorW.PrintLast Go.Proofs.YthgkeehpoilgaaaGreatDoorW.PrintMore
attribute [local go_sem] max2_int min2_int max_two min_two max_three min_three max_four min_four
set_option linter.unusedVariables false
set_option linter.unusedSimpArgs false
mutual
def vcode_shapeOf.j0 : Nat → Int → Int → Bool → Option (Int × Int × Bool × Bool × Bool)
 | 0, _, _, _ => none
 | k + 1, x0, x6, x7 => if x7 = true then (some (0, 0, true, false, true)) else (if x6 = 192 then (vcode_shapeOf.j1 k x0 x6 (x6 == 192)) else (vcode_shapeOf.j1 k x0 x6 (x6 == 64)))
def vcode_shapeOf.j1 : Nat → Int → Int → Bool → Option (Int × Int × Bool × Bool × Bool)
 | 0, _, _, _ => none
 | k + 1, x0, x6, x12 => if x12 = true then (some (1, 0, true, false, true)) else (if x6 = 27 then (some (3, 0, true, false, true)) else (if x6 = 36 then (vcode_shapeOf.j2 k x0 x6 (x6 == 36)) else (if x6 = 194 then (vcode_shapeOf.j2 k x0 x6 (x6 == 194)) else (vcode_shapeOf.j2 k x0 x6 (x6 == 195)))))
def vcode_shapeOf.j2 : Nat → Int → Int → Bool → Option (Int × Int × Bool × Bool × Bool)
 | 0, _, _, _ => none
 | k + 1, x0, x6, x19 => if x19 = true then (some (1, 0, false, false, true)) else (if x6 = 193 then (vcode_shapeOf.j3 k x0 x6 (x6 == 193)) else (vcode_shapeOf.j3 k x0 x6 (x6 == 0)))
def vcode_shapeOf.j3 : Nat → Int → Int → Bool → Option (Int × Int × Bool × Bool × Bool)
 | 0, _, _, _ => none
 | k + 1, x0, x6, x24 => if x24 = true then (some (0, 0, false, false, true)) else (if x6 = 15 then (some ((-1), 0, false, false, true)) else (if x6 = 16 then (some ((-1), 0, false, true, true)) else (if x6 = 17 then (some ((-1), 1, false, true, true)) else ((vcode_memory.f x0).bind fun t296 => (if t296 = true then ((ops_Sign.f k x0).bind fun bt297 => (if bt297.2.2.isNone = true then (some ((bt297.1.length : Int), 0, (bt297.2.1 != 0), false, true)) else (some ((bt297.1.length : Int), 0, (bt297.2.1 != 0), false, false)))) else ((vcode_reckons.f x0).bind fun t304 => (if t304 = true then ((ops_Sign.f k x0).bind fun bt305 => (if bt305.2.2.isNone = true then (some ((bt305.1.length : Int), 0, (bt305.2.1 != 0), false, true)) else (some ((bt305.1.length : Int), 0, (bt305.2.1 != 0), false, false)))) else (some (0, 0, false, false, false)))))))))
end
def vcode_shapeOf.f (k : Nat) (a0 : Int) : Option (Int × Int × Bool × Bool × Bool) := if a0 = 66 then (vcode_shapeOf.j0 k a0 a0 (a0 == 66)) else (if a0 = 63 then (vcode_shapeOf.j0 k a0 a0 (a0 == 63)) else (vcode_shapeOf.j0 k a0 a0 (a0 == 35)))
def vcode_shapeOf.T27 : Bool × List (List Nat × List Nat) := (true, [([], []), ([0], [0]), ([1], [1]), ([], []), ([3], [3]), ([4], [4]), ([2, 5], [2, 5]), ([], []), ([7], [7]), ([6, 0, 1, 2, 3, 4, 5, 6], [6]), ([8, 9, 0, 1, 2, 3, 4, 5, 6, 7, 8, 9], [8])])
def vcode_shapeOf.B27 : List Nat := [0, 1, 3, 0, 8, 24, 63, 0, 128, 127, 1023]
theorem vcode_shapeOf.tab27 : rtab .any (opsOf Tryz.f103 27) = vcode_shapeOf.T27 := Q0
theorem vcode_shapeOf.bits27 : waitsOk vcode_shapeOf.T27.2 vcode_shapeOf.B27 = true := Q0
set_option maxHeartbeats 8000000 in
set_option maxRecDepth 100000 in
theorem vcode_shapeOf.calls (k : Nat) (a0 : Int) (r1 : Int) (r2 : Int) (r3 : Bool) (r4 : Bool) (r5 : Bool) (w : World) (hG : GG [0] w) (h : vcode_shapeOf.f k a0 = some (r1, r2, r3, r4, r5)) :
  Calls Tryz.prog 103 #[.int .u8 a0] w fun e w' => e = .returned (.tuple #[.agg #[.int .i64 r1, .int .i64 r2, .bool r3, .bool r4], .bool r5]) ∧ Below w.heap.size w w' := by
 have hu234 := Tryz.underlying234
 have hu139 := Tryz.underlying139
 have hu30 := Tryz.underlying30
 have hu104 := Tryz.underlying104
 have HB := Aside0.mk (Below.refl w.heap.size w)
 have HG := Aside0.mk hG
 clear hG
 have H : (if a0 = 66 then (vcode_shapeOf.j0 k a0 a0 (a0 == 66)) else (if a0 = 63 then (vcode_shapeOf.j0 k a0 a0 (a0 == 63)) else (vcode_shapeOf.j0 k a0 a0 (a0 == 35)))) = some (r1, r2, r3, r4, r5) := h
 clear h
 have HC2 := Aside0.mk H
 clear H
 go_enter Tryz.func103, Tryz.ntmps103
 go_upto_if 7 with (first | ((with_reducible refine gate_dst (N := 2) rfl ?_); refine box_event ?hg (N := 2) ?hd (cs := #[.int .i64 0, .int .i64 0, .bool false, .bool false]) (t := 234) ?hr ?_; (case hd => rfl); (case hg => rfl); (case hr => first | (go_simp; done) | (go_simp; rfl)); intro gb295 hg w3 hbox hb; have n0_ := Aside0.mk (below_step Q1 hb); have n1_ := Aside0.mk (hbox); have n2_ := Aside0.mk ((Q155 : w.heap.size ≤ gb295)); have n3_ := Aside0.mk ((Q155 : w.heap.size ≤ gb295)); clear HB; have HB := n0_; have BK295 := n1_; have GW295 := n2_; have GE295 := n3_; clear n0_ n1_ n2_ n3_; clear hb hbox hg))
 (try simp only [Act.put, List.setIfInBounds_toArray, List.set_cons_zero, List.set_cons_succ])
 go_cut [7] (fun v7 wc => ∃ (kq : Nat) (x7_1 : Bool), v7 = .bool x7_1 ∧ Aside0 (vcode_shapeOf.j0 kq a0 a0 x7_1 = some (r1, r2, r3, r4, r5)) ∧ Aside0 (kq ≤ k) ∧ Aside0 (wc.heap[gb295]? = some (.cells #[.int .i64 0, .int .i64 0, .bool false, .bool false] 234 (0, 0))) ∧ Aside0 (Below w.heap.size w wc))
 case first =>
  have H := HC2.out
  clear HC2
  by_cases c4 : a0 = 66
  ·rw [if_pos c4] at H
   have c4b0 : (a0 == 66) = true := beq_iff_eq.mpr c4
   have c4b1 : (a0 != 66) = false := bne_eq_false_iff_eq.mpr c4
   clear c4
   (first | rw [c4b0] | (simp only [i64_w, i32_w]; rw [c4b0]) | skip)
   have H' := Aside0.mk H
   clear H
   go_wp2
   go_meet
   case rel => exact ⟨_, ((a0 == 66)), Q3, H', ⟨Q15⟩, ⟨Q23⟩, ⟨Q16⟩⟩
  rw [if_neg c4] at H
  have c4b0 : (a0 == 66) = false := beq_eq_false_iff_ne.mpr c4
  have c4b1 : (a0 != 66) = true := bne_iff_ne.mpr c4
  (first | rw [c4b0] | (simp only [i64_w, i32_w]; rw [c4b0]) | skip)
  by_cases c5 : a0 = 63
  ·rw [if_pos c5] at H
   have c5b0 : (a0 == 63) = true := beq_iff_eq.mpr c5
   have c5b1 : (a0 != 63) = false := bne_eq_false_iff_eq.mpr c5
   clear c5
   have H' := Aside0.mk H
   clear H
   go_wp2
   go_meet
   case rel => exact ⟨_, ((a0 == 63)), Q3, H', ⟨Q15⟩, ⟨Q23⟩, ⟨Q16⟩⟩
  rw [if_neg c5] at H
  have c5b0 : (a0 == 63) = false := beq_eq_false_iff_ne.mpr c5
  have c5b1 : (a0 != 63) = true := bne_iff_ne.mpr c5
  have H' := Aside0.mk H
  clear H
  go_wp2
  go_meet
  case rel => exact ⟨_, ((a0 == 35)), Q3, H', ⟨Q15⟩, ⟨Q23⟩, ⟨Q16⟩⟩
 case rest =>
  clear HC2
  obtain ⟨kq, x7_1, rfl, HA, HJ1, BK295, HB⟩ := hcut
  cases kq with
  | zero => exact absurd HA.out (by simp [vcode_shapeOf.j0])
  | succ kj1 =>
   have H := HA.out
   clear HA
   simp only [vcode_shapeOf.j0] at H
   by_cases c6 : x7_1 = true
   ·subst c6
    have H1 : (some (0, 0, true, false, true)) = some (r1, r2, r3, r4, r5) := Q14
    clear H
    have H := H1
    clear H1
    simp only [Option.some.injEq, Prod.mk.injEq] at H
    obtain ⟨rfl, rfl, rfl, rfl, rfl⟩ := H
    have ⟨hcz7_0, hcz7_1, hcz7_2, hcz7_3, hfz7_0, hfz7_1, hfz7_2, hfz7_3⟩ := blk4 BK295.out
    go_wp2
    refine bodyPost_ret (results_ct rfl _ _ gb295 234 #[.int .i64 0, .int .i64 0, .bool true, .bool false] (0, 0) _ rfl (by (with_reducible repeat (first | refine blk_drewN ?_ _ | refine blk_drew ?_ | refine blk_alloc ?_ _)); refine blk_put (cs := #[.int .i64 0, .int .i64 0, .bool true, .bool false]) ?_ 3 _ rfl; (with_reducible repeat (first | refine blk_drewN ?_ _ | refine blk_drew ?_ | refine blk_alloc ?_ _)); refine blk_put (cs := #[.int .i64 0, .int .i64 0, .bool false, .bool false]) ?_ 2 _ rfl; (with_reducible repeat (first | refine blk_drewN ?_ _ | refine blk_drew ?_ | refine blk_alloc ?_ _)); refine blk_put (cs := #[.int .i64 0, .int .i64 0, .bool false, .bool false]) ?_ 1 _ rfl; (with_reducible repeat (first | refine blk_drewN ?_ _ | refine blk_drew ?_ | refine blk_alloc ?_ _)); refine blk_put (cs := #[.int .i64 0, .int .i64 0, .bool false, .bool false]) ?_ 0 _ rfl; (with_reducible repeat (first | refine blk_drewN ?_ _ | refine blk_drew ?_ | refine blk_alloc ?_ _)); exact BK295.out) Tryz.underlying234 rfl Q0) rfl ?_
    exact ⟨Q6, Q16⟩
   replace c6 := Bool.eq_false_iff.mpr c6
   subst c6
   have H1 : (if a0 = 192 then (vcode_shapeOf.j1 kj1 a0 a0 (a0 == 192)) else (vcode_shapeOf.j1 kj1 a0 a0 (a0 == 64))) = some (r1, r2, r3, r4, r5) := by rw [if_neg (show ¬ (false = true) by decide)] at H; exact H
   clear H
   have H := H1
   clear H1
   have HC8 := Aside0.mk H
   clear H
   go_upto_if 12 with (fail)
   go_cut [12] (fun v12 wc => ∃ (kq : Nat) (x12_7 : Bool), v12 = .bool x12_7 ∧ Aside0 (vcode_shapeOf.j1 kq a0 a0 x12_7 = some (r1, r2, r3, r4, r5)) ∧ Aside0 (kq ≤ kj1) ∧ Aside0 (wc.heap[gb295]? = some (.cells #[.int .i64 0, .int .i64 0, .bool false, .bool false] 234 (0, 0))) ∧ Aside0 (Below w.heap.size w wc))
   case first =>
    have H := HC8.out
    clear HC8
    by_cases c9 : a0 = 192
    ·rw [if_pos c9] at H
     have c9b0 : (a0 == 192) = true := beq_iff_eq.mpr c9
     have c9b1 : (a0 != 192) = false := bne_eq_false_iff_eq.mpr c9
     clear c9
     (first | rw [c9b0] | (simp only [i64_w, i32_w]; rw [c9b0]) | skip)
     have H' := Aside0.mk H
     clear H
     go_wp2
     go_meet
     case rel => exact ⟨_, ((a0 == 192)), Q3, H', ⟨Q74⟩, ⟨Q23⟩, ⟨Q16⟩⟩
    rw [if_neg c9] at H
    have c9b0 : (a0 == 192) = false := beq_eq_false_iff_ne.mpr c9
    have c9b1 : (a0 != 192) = true := bne_iff_ne.mpr c9
    (first | rw [c9b0] | (simp only [i64_w, i32_w]; rw [c9b0]) | skip)
    have H' := Aside0.mk H
    clear H
    go_wp2
    go_meet
    case rel => exact ⟨_, ((a0 == 64)), Q3, H', ⟨Q74⟩, ⟨Q23⟩, ⟨Q16⟩⟩
   case rest =>
    clear HC8
    try clear c6
    obtain ⟨kq, x12_7, rfl, HA, HJ7, BK295, HB⟩ := hcut
    cases kq with
    | zero => exact absurd HA.out (by simp [vcode_shapeOf.j1])
    | succ kj7 =>
     have H := HA.out
     clear HA
     simp only [vcode_shapeOf.j1] at H
     by_cases c10 : x12_7 = true
     ·subst c10
      have H1 : (some (1, 0, true, false, true)) = some (r1, r2, r3, r4, r5) := Q14
      clear H
      have H := H1
      clear H1
      simp only [Option.some.injEq, Prod.mk.injEq] at H
      obtain ⟨rfl, rfl, rfl, rfl, rfl⟩ := H
      have ⟨hcz11_0, hcz11_1, hcz11_2, hcz11_3, hfz11_0, hfz11_1, hfz11_2, hfz11_3⟩ := blk4 BK295.out
      go_wp2
      refine bodyPost_ret (results_ct rfl _ _ gb295 234 #[.int .i64 1, .int .i64 0, .bool true, .bool false] (0, 0) _ rfl (by (with_reducible repeat (first | refine blk_drewN ?_ _ | refine blk_drew ?_ | refine blk_alloc ?_ _)); refine blk_put (cs := #[.int .i64 1, .int .i64 0, .bool true, .bool false]) ?_ 3 _ rfl; (with_reducible repeat (first | refine blk_drewN ?_ _ | refine blk_drew ?_ | refine blk_alloc ?_ _)); refine blk_put (cs := #[.int .i64 1, .int .i64 0, .bool false, .bool false]) ?_ 2 _ rfl; (with_reducible repeat (first | refine blk_drewN ?_ _ | refine blk_drew ?_ | refine blk_alloc ?_ _)); refine blk_put (cs := #[.int .i64 1, .int .i64 0, .bool false, .bool false]) ?_ 1 _ rfl; (with_reducible repeat (first | refine blk_drewN ?_ _ | refine blk_drew ?_ | refine blk_alloc ?_ _)); refine blk_put (cs := #[.int .i64 0, .int .i64 0, .bool false, .bool false]) ?_ 0 _ rfl; (with_reducible repeat (first | refine blk_drewN ?_ _ | refine blk_drew ?_ | refine blk_alloc ?_ _)); exact BK295.out) Tryz.underlying234 rfl Q0) rfl ?_
      exact ⟨Q6, Q16⟩
     replace c10 := Bool.eq_false_iff.mpr c10
     subst c10
     have H1 : (if a0 = 27 then (some (3, 0, true, false, true)) else (if a0 = 36 then (vcode_shapeOf.j2 kj7 a0 a0 (a0 == 36)) else (if a0 = 194 then (vcode_shapeOf.j2 kj7 a0 a0 (a0 == 194)) else (vcode_shapeOf.j2 kj7 a0 a0 (a0 == 195))))) = some (r1, r2, r3, r4, r5) := by rw [if_neg (show ¬ (false = true) by decide)] at H; exact H
     clear H
     have H := H1
     clear H1
     by_cases c12 : a0 = 27
     ·rw [if_pos c12] at H
      have c12b0 : (a0 == 27) = true := beq_iff_eq.mpr c12
      have c12b1 : (a0 != 27) = false := bne_eq_false_iff_eq.mpr c12
      clear c12
      simp only [Option.some.injEq, Prod.mk.injEq] at H
      obtain ⟨rfl, rfl, rfl, rfl, rfl⟩ := H
      have ⟨hcz13_0, hcz13_1, hcz13_2, hcz13_3, hfz13_0, hfz13_1, hfz13_2, hfz13_3⟩ := blk4 BK295.out
      go_wp2
      refine bodyPost_ret (results_ct rfl _ _ gb295 234 #[.int .i64 3, .int .i64 0, .bool true, .bool false] (0, 0) _ rfl (by (with_reducible repeat (first | refine blk_drewN ?_ _ | refine blk_drew ?_ | refine blk_alloc ?_ _)); refine blk_put (cs := #[.int .i64 3, .int .i64 0, .bool true, .bool false]) ?_ 3 _ rfl; (with_reducible repeat (first | refine blk_drewN ?_ _ | refine blk_drew ?_ | refine blk_alloc ?_ _)); refine blk_put (cs := #[.int .i64 3, .int .i64 0, .bool false, .bool false]) ?_ 2 _ rfl; (with_reducible repeat (first | refine blk_drewN ?_ _ | refine blk_drew ?_ | refine blk_alloc ?_ _)); refine blk_put (cs := #[.int .i64 3, .int .i64 0, .bool false, .bool false]) ?_ 1 _ rfl; (with_reducible repeat (first | refine blk_drewN ?_ _ | refine blk_drew ?_ | refine blk_alloc ?_ _)); refine blk_put (cs := #[.int .i64 0, .int .i64 0, .bool false, .bool false]) ?_ 0 _ rfl; (with_reducible repeat (first | refine blk_drewN ?_ _ | refine blk_drew ?_ | refine blk_alloc ?_ _)); exact BK295.out) Tryz.underlying234 rfl Q0) rfl ?_
      exact ⟨Q6, Q16⟩
     rw [if_neg c12] at H
     have c12b0 : (a0 == 27) = false := beq_eq_false_iff_ne.mpr c12
     have c12b1 : (a0 != 27) = true := bne_iff_ne.mpr c12
     have HC14 := Aside0.mk H
     clear H
     go_upto_if 19 with (fail)
     go_cut [19] (fun v19 wc => ∃ (kq : Nat) (x19_13 : Bool), v19 = .bool x19_13 ∧ Aside0 (vcode_shapeOf.j2 kq a0 a0 x19_13 = some (r1, r2, r3, r4, r5)) ∧ Aside0 (kq ≤ kj7) ∧ Aside0 (wc.heap[gb295]? = some (.cells #[.int .i64 0, .int .i64 0, .bool false, .bool false] 234 (0, 0))) ∧ Aside0 (Below w.heap.size w wc))
     case first =>
      have H := HC14.out
      clear HC14
      by_cases c15 : a0 = 36
      ·rw [if_pos c15] at H
       have c15b0 : (a0 == 36) = true := beq_iff_eq.mpr c15
       have c15b1 : (a0 != 36) = false := bne_eq_false_iff_eq.mpr c15
       clear c15
       (first | rw [c15b0] | (simp only [i64_w, i32_w]; rw [c15b0]) | skip)
       have H' := Aside0.mk H
       clear H
       go_wp2
       go_meet
       case rel => exact ⟨_, ((a0 == 36)), Q3, H', ⟨Q85⟩, ⟨Q23⟩, ⟨Q16⟩⟩
      rw [if_neg c15] at H
      have c15b0 : (a0 == 36) = false := beq_eq_false_iff_ne.mpr c15
      have c15b1 : (a0 != 36) = true := bne_iff_ne.mpr c15
      (first | rw [c15b0] | (simp only [i64_w, i32_w]; rw [c15b0]) | skip)
      by_cases c16 : a0 = 194
      ·rw [if_pos c16] at H
       have c16b0 : (a0 == 194) = true := beq_iff_eq.mpr c16
       have c16b1 : (a0 != 194) = false := bne_eq_false_iff_eq.mpr c16
       clear c16
       have H' := Aside0.mk H
       clear H
       go_wp2
       go_meet
       case rel => exact ⟨_, ((a0 == 194)), Q3, H', ⟨Q85⟩, ⟨Q23⟩, ⟨Q16⟩⟩
      rw [if_neg c16] at H
      have c16b0 : (a0 == 194) = false := beq_eq_false_iff_ne.mpr c16
      have c16b1 : (a0 != 194) = true := bne_iff_ne.mpr c16
      have H' := Aside0.mk H
      clear H
      go_wp2
      go_meet
      case rel => exact ⟨_, ((a0 == 195)), Q3, H', ⟨Q85⟩, ⟨Q23⟩, ⟨Q16⟩⟩
     case rest =>
      clear HC14
      try clear c6
      try clear c10
      try clear c12
      try clear c12b0
      try clear c12b1
      obtain ⟨kq, x19_13, rfl, HA, HJ13, BK295, HB⟩ := hcut
      cases kq with
      | zero => exact absurd HA.out (by simp [vcode_shapeOf.j2])
      | succ kj13 =>
       have H := HA.out
       clear HA
       simp only [vcode_shapeOf.j2] at H
       by_cases c17 : x19_13 = true
       ·subst c17
        have H1 : (some (1, 0, false, false, true)) = some (r1, r2, r3, r4, r5) := Q14
        clear H
        have H := H1
        clear H1
        simp only [Option.some.injEq, Prod.mk.injEq] at H
        obtain ⟨rfl, rfl, rfl, rfl, rfl⟩ := H
        have ⟨hcz18_0, hcz18_1, hcz18_2, hcz18_3, hfz18_0, hfz18_1, hfz18_2, hfz18_3⟩ := blk4 BK295.out
        go_wp2
        refine bodyPost_ret (results_ct rfl _ _ gb295 234 #[.int .i64 1, .int .i64 0, .bool false, .bool false] (0, 0) _ rfl (by (with_reducible repeat (first | refine blk_drewN ?_ _ | refine blk_drew ?_ | refine blk_alloc ?_ _)); refine blk_put (cs := #[.int .i64 1, .int .i64 0, .bool false, .bool false]) ?_ 3 _ rfl; (with_reducible repeat (first | refine blk_drewN ?_ _ | refine blk_drew ?_ | refine blk_alloc ?_ _)); refine blk_put (cs := #[.int .i64 1, .int .i64 0, .bool false, .bool false]) ?_ 2 _ rfl; (with_reducible repeat (first | refine blk_drewN ?_ _ | refine blk_drew ?_ | refine blk_alloc ?_ _)); refine blk_put (cs := #[.int .i64 1, .int .i64 0, .bool false, .bool false]) ?_ 1 _ rfl; (with_reducible repeat (first | refine blk_drewN ?_ _ | refine blk_drew ?_ | refine blk_alloc ?_ _)); refine blk_put (cs := #[.int .i64 0, .int .i64 0, .bool false, .bool false]) ?_ 0 _ rfl; (with_reducible repeat (first | refine blk_drewN ?_ _ | refine blk_drew ?_ | refine blk_alloc ?_ _)); exact BK295.out) Tryz.underlying234 rfl Q0) rfl ?_
        exact ⟨Q6, Q16⟩
       replace c17 := Bool.eq_false_iff.mpr c17
       subst c17
       have H1 : (if a0 = 193 then (vcode_shapeOf.j3 kj13 a0 a0 (a0 == 193)) else (vcode_shapeOf.j3 kj13 a0 a0 (a0 == 0))) = some (r1, r2, r3, r4, r5) := by rw [if_neg (show ¬ (false = true) by decide)] at H; exact H
       clear H
       have H := H1
       clear H1
       have HC19 := Aside0.mk H
       clear H
       go_upto_if 24 with (fail)
       go_cut [24] (fun v24 wc => ∃ (kq : Nat) (x24_18 : Bool), v24 = .bool x24_18 ∧ Aside0 (vcode_shapeOf.j3 kq a0 a0 x24_18 = some (r1, r2, r3, r4, r5)) ∧ Aside0 (kq ≤ kj13) ∧ Aside0 (wc.heap[gb295]? = some (.cells #[.int .i64 0, .int .i64 0, .bool false, .bool false] 234 (0, 0))) ∧ Aside0 (Below w.heap.size w wc))
       case first =>
        have H := HC19.out
        clear HC19
        by_cases c20 : a0 = 193
        ·rw [if_pos c20] at H
         have c20b0 : (a0 == 193) = true := beq_iff_eq.mpr c20
         have c20b1 : (a0 != 193) = false := bne_eq_false_iff_eq.mpr c20
         clear c20
         (first | rw [c20b0] | (simp only [i64_w, i32_w]; rw [c20b0]) | skip)
         have H' := Aside0.mk H
         clear H
         go_wp2
         go_meet
         case rel => exact ⟨_, ((a0 == 193)), Q3, H', ⟨Q112⟩, ⟨Q23⟩, ⟨Q16⟩⟩
        rw [if_neg c20] at H
        have c20b0 : (a0 == 193) = false := beq_eq_false_iff_ne.mpr c20
        have c20b1 : (a0 != 193) = true := bne_iff_ne.mpr c20
        (first | rw [c20b0] | (simp only [i64_w, i32_w]; rw [c20b0]) | skip)
        have H' := Aside0.mk H
        clear H
        go_wp2
        go_meet
        case rel => exact ⟨_, ((a0 == 0)), Q3, H', ⟨Q112⟩, ⟨Q23⟩, ⟨Q16⟩⟩
       case rest =>
        clear HC19
        try clear c6
        try clear c10
        try clear c12
        try clear c12b0
        try clear c12b1
        try clear c17
        obtain ⟨kq, x24_18, rfl, HA, HJ18, BK295, HB⟩ := hcut
        cases kq with
        | zero => exact absurd HA.out (by simp [vcode_shapeOf.j3])
        | succ kj18 =>
         have H := HA.out
         clear HA
         simp only [vcode_shapeOf.j3] at H
         by_cases c21 : x24_18 = true
         ·subst c21
          have H1 : (some (0, 0, false, false, true)) = some (r1, r2, r3, r4, r5) := Q14
          clear H
          have H := H1
          clear H1
          simp only [Option.some.injEq, Prod.mk.injEq] at H
          obtain ⟨rfl, rfl, rfl, rfl, rfl⟩ := H
          have ⟨hcz22_0, hcz22_1, hcz22_2, hcz22_3, hfz22_0, hfz22_1, hfz22_2, hfz22_3⟩ := blk4 BK295.out
          go_wp2
          refine bodyPost_ret (results_ct rfl _ _ gb295 234 #[.int .i64 0, .int .i64 0, .bool false, .bool false] (0, 0) _ rfl Q113 Tryz.underlying234 rfl Q0) rfl ?_
          exact ⟨Q6, Q16⟩
         replace c21 := Bool.eq_false_iff.mpr c21
         subst c21
         have H1 : (if a0 = 15 then (some ((-1), 0, false, false, true)) else (if a0 = 16 then (some ((-1), 0, false, true, true)) else (if a0 = 17 then (some ((-1), 1, false, true, true)) else ((vcode_memory.f a0).bind fun t296 => (if t296 = true then ((ops_Sign.f kj18 a0).bind fun bt297 => (if bt297.2.2.isNone = true then (some ((bt297.1.length : Int), 0, (bt297.2.1 != 0), false, true)) else (some ((bt297.1.length : Int), 0, (bt297.2.1 != 0), false, false)))) else ((vcode_reckons.f a0).bind fun t304 => (if t304 = true then ((ops_Sign.f kj18 a0).bind fun bt305 => (if bt305.2.2.isNone = true then (some ((bt305.1.length : Int), 0, (bt305.2.1 != 0), false, true)) else (some ((bt305.1.length : Int), 0, (bt305.2.1 != 0), false, false)))) else (some (0, 0, false, false, false))))))))) = some (r1, r2, r3, r4, r5) := by rw [if_neg (show ¬ (false = true) by decide)] at H; exact H
         clear H
         have H := H1
         clear H1
         by_cases c23 : a0 = 15
         ·rw [if_pos c23] at H
          have c23b0 : (a0 == 15) = true := beq_iff_eq.mpr c23
          have c23b1 : (a0 != 15) = false := bne_eq_false_iff_eq.mpr c23
          clear c23
          simp only [Option.some.injEq, Prod.mk.injEq] at H
          obtain ⟨rfl, rfl, rfl, rfl, rfl⟩ := H
          have ⟨hcz24_0, hcz24_1, hcz24_2, hcz24_3, hfz24_0, hfz24_1, hfz24_2, hfz24_3⟩ := blk4 BK295.out
          go_wp2
          refine bodyPost_ret (results_ct rfl _ _ gb295 234 #[.int .i64 (-1), .int .i64 0, .bool false, .bool false] (0, 0) _ rfl Q114 Tryz.underlying234 rfl Q0) rfl ?_
          exact ⟨Q6, Q16⟩
         rw [if_neg c23] at H
         have c23b0 : (a0 == 15) = false := beq_eq_false_iff_ne.mpr c23
         have c23b1 : (a0 != 15) = true := bne_iff_ne.mpr c23
         by_cases c25 : a0 = 16
         ·rw [if_pos c25] at H
          have c25b0 : (a0 == 16) = true := beq_iff_eq.mpr c25
          have c25b1 : (a0 != 16) = false := bne_eq_false_iff_eq.mpr c25
          clear c25
          simp only [Option.some.injEq, Prod.mk.injEq] at H
          obtain ⟨rfl, rfl, rfl, rfl, rfl⟩ := H
          have ⟨hcz26_0, hcz26_1, hcz26_2, hcz26_3, hfz26_0, hfz26_1, hfz26_2, hfz26_3⟩ := blk4 BK295.out
          go_wp2
          refine bodyPost_ret (results_ct rfl _ _ gb295 234 #[.int .i64 (-1), .int .i64 0, .bool false, .bool true] (0, 0) _ rfl Q114 Tryz.underlying234 rfl Q0) rfl ?_
          exact ⟨Q6, Q16⟩
         rw [if_neg c25] at H
         have c25b0 : (a0 == 16) = false := beq_eq_false_iff_ne.mpr c25
         have c25b1 : (a0 != 16) = true := bne_iff_ne.mpr c25
         by_cases c27 : a0 = 17
         ·rw [if_pos c27] at H
          have c27b0 : (a0 == 17) = true := beq_iff_eq.mpr c27
          have c27b1 : (a0 != 17) = false := bne_eq_false_iff_eq.mpr c27
          clear c27
          simp only [Option.some.injEq, Prod.mk.injEq] at H
          obtain ⟨rfl, rfl, rfl, rfl, rfl⟩ := H
          have ⟨hcz28_0, hcz28_1, hcz28_2, hcz28_3, hfz28_0, hfz28_1, hfz28_2, hfz28_3⟩ := blk4 BK295.out
          go_wp2
          refine bodyPost_ret (results_ct rfl _ _ gb295 234 #[.int .i64 (-1), .int .i64 1, .bool false, .bool true] (0, 0) _ rfl (by (with_reducible repeat (first | refine blk_drewN ?_ _ | refine blk_drew ?_ | refine blk_alloc ?_ _)); refine blk_put (cs := #[.int .i64 (-1), .int .i64 1, .bool false, .bool false]) ?_ 3 _ rfl; (with_reducible repeat (first | refine blk_drewN ?_ _ | refine blk_drew ?_ | refine blk_alloc ?_ _)); refine blk_put (cs := #[.int .i64 (-1), .int .i64 1, .bool false, .bool false]) ?_ 2 _ rfl; (with_reducible repeat (first | refine blk_drewN ?_ _ | refine blk_drew ?_ | refine blk_alloc ?_ _)); refine blk_put (cs := #[.int .i64 (-1), .int .i64 0, .bool false, .bool false]) ?_ 1 _ rfl; (with_reducible repeat (first | refine blk_drewN ?_ _ | refine blk_drew ?_ | refine blk_alloc ?_ _)); refine blk_put (cs := #[.int .i64 0, .int .i64 0, .bool false, .bool false]) ?_ 0 _ rfl; (with_reducible repeat (first | refine blk_drewN ?_ _ | refine blk_drew ?_ | refine blk_alloc ?_ _)); exact BK295.out) Tryz.underlying234 rfl Q0) rfl ?_
          exact ⟨Q6, Q16⟩
         rw [if_neg c27] at H
         have c27b0 : (a0 == 17) = false := beq_eq_false_iff_ne.mpr c27
         have c27b1 : (a0 != 17) = true := bne_iff_ne.mpr c27
         replace H := Option.bind_eq_some_iff.mp H
         obtain ⟨t296, A290, H⟩ := H
         replace H : (if t296 = true then ((ops_Sign.f kj18 a0).bind fun bt297 => (if bt297.2.2.isNone = true then (some ((bt297.1.length : Int), 0, (bt297.2.1 != 0), false, true)) else (some ((bt297.1.length : Int), 0, (bt297.2.1 != 0), false, false)))) else ((vcode_reckons.f a0).bind fun t304 => (if t304 = true then ((ops_Sign.f kj18 a0).bind fun bt305 => (if bt305.2.2.isNone = true then (some ((bt305.1.length : Int), 0, (bt305.2.1 != 0), false, true)) else (some ((bt305.1.length : Int), 0, (bt305.2.1 != 0), false, false)))) else (some (0, 0, false, false, false))))) = some (r1, r2, r3, r4, r5) := H
         have A29 := Aside0.mk A290
         clear A290
         by_cases c30 : t296 = true
         ·subst c30
          have H1 : ((ops_Sign.f kj18 a0).bind fun bt297 => (if bt297.2.2.isNone = true then (some ((bt297.1.length : Int), 0, (bt297.2.1 != 0), false, true)) else (some ((bt297.1.length : Int), 0, (bt297.2.1 != 0), false, false)))) = some (r1, r2, r3, r4, r5) := Q14
          clear H
          have H := H1
          clear H1
          replace H := Option.bind_eq_some_iff.mp H
          obtain ⟨⟨t297, t300, t301⟩, A310, H⟩ := H
          replace H : (if t301.isNone = true then (some ((t297.length : Int), 0, (t300 != 0), false, true)) else (some ((t297.length : Int), 0, (t300 != 0), false, false))) = some (r1, r2, r3, r4, r5) := H
          have A31 := Aside0.mk A310
          clear A310
          rcases t301 with _ | q303
          ·have H1 : (some ((t297.length : Int), 0, (t300 != 0), false, true)) = some (r1, r2, r3, r4, r5) := by rw [if_pos (show (none : Option Int).isNone = true by rfl)] at H; exact H
           clear H
           have H := H1
           clear H1
           try simp only [errW_none, errW_some]
           simp only [Option.some.injEq, Prod.mk.injEq] at H
           obtain ⟨rfl, rfl, rfl, rfl, rfl⟩ := H
           try go_wp2_with (first | ((with_reducible refine gate_callee (f := 78) rfl ?_); refine goesL_ (some 38) rfl rfl Tryz.func78 Q0 rfl #[.int .u8 a0] rfl Q9 ?_; (with_reducible refine (vcode_memory.calls a0 true _ ?side1 A29.out).mono ?_); (case side1 => exact GG.nil _); rintro e w32 ⟨rfl, hb⟩; refine ⟨_, rfl, ?_⟩; have n0_ := Aside0.mk (blk_below (g := gb295) (o := .cells #[.int .i64 0, .int .i64 0, .bool false, .bool false] 234 (0, 0)) Q23 hb); have n1_ := Aside0.mk (below_step Q16 hb); clear BK295; clear HB; have BK295 := n0_; have HB := n1_; clear n0_ n1_; (try clear hb); (try clear hb2); (try clear hk); (try clear hi)) | ((with_reducible refine gate_callee (f := 115) rfl ?_); refine goesL_ (some 48) rfl rfl Tryz.func115 Q0 rfl #[.int .u8 a0] rfl Q9 ?_; (with_reducible refine (ops_Sign.calls kj18 a0 t297 t300 none _ ?side1 A31.out).mono ?_); (case side1 => exact GG.below Q16 HG.out); rintro e w33 ⟨v298, rfl, ho0, hb⟩; refine ⟨_, rfl, ?_⟩; have n0_ := Aside0.mk (Kd.R_lower ho0 (below_size Q16)); have n1_ := Aside0.mk (blk_below (g := gb295) (o := .cells #[.int .i64 0, .int .i64 0, .bool false, .bool false] 234 (0, 0)) Q23 hb); have n2_ := Aside0.mk (below_step Q16 hb); clear BK295; clear HB; have HO299 := n0_; have BK295 := n1_; have HB := n2_; clear n0_ n1_ n2_; (try clear hb); (try clear hb2); (try clear hk); (try clear hi); (try clear ho0); (try simp only [errW_none, errW_some])) | ((with_reducible refine gate_dst (N := 4) rfl ?_); refine box_event ?hg (N := 4) ?hd (cs := #[.slice none 0 0, .int .u8 0]) (t := 139) ?hr ?_; (case hd => rfl); (case hg => rfl); (case hr => first | (go_simp; done) | (go_simp; rfl)); intro gb302 hg w34 hbox hb; have n0_ := Aside0.mk (Kd.R_below Q115 hb); have n1_ := Aside0.mk (blk_below (g := gb295) (o := .cells #[.int .i64 0, .int .i64 0, .bool false, .bool false] 234 (0, 0)) Q23 hb); have n2_ := Aside0.mk (below_step Q16 hb); have n3_ := Aside0.mk (hbox); have n4_ := Aside0.mk ((Q163 : w.heap.size ≤ gb302)); have n5_ := Aside0.mk ((Q163 : w.heap.size ≤ gb302)); have n6_ := Aside0.mk ((Q169 : gb295 ≠ gb302)); have n7_ := Aside0.mk ((Q170 : gb302 ≠ gb295)); clear HO299; clear BK295; clear HB; have HO299 := n0_; have BK295 := n1_; have HB := n2_; have BK302 := n3_; have GW302 := n4_; have GE302 := n5_; have NB295_302 := n6_; have NB302_295 := n7_; clear n0_ n1_ n2_ n3_ n4_ n5_ n6_ n7_; clear hb hbox hg; obtain ⟨Ao35, co35, eo35⟩ := Kd.R_slice HO299.out; subst eo35; have hnb36 := NB302_295.out; have hnc36 := NB295_302.out; have hcz37_0 : w34.cell? ⟨gb302, 0, none⟩ = some (.slice none 0 0) := (blk_cell BK302.out 0).trans rfl; have hcz37_1 : w34.cell? ⟨gb302, 1, none⟩ = some (.int .u8 0) := (blk_cell BK302.out 1).trans rfl; have hfz37_0 := blk_frozen BK302.out 0; have hfz37_1 := blk_frozen BK302.out 1))
           have n0_ : Aside0 (Kd.R (Kd.int .u8) 137 ((w34.setCell ⟨gb302, 0, none⟩ (.slice Ao35 t297.length co35)).setCell ⟨gb302, 1, none⟩ (.int .u8 t300)) w.heap.size (fun _ => True) (.slice Ao35 t297.length co35) t297) := ⟨by (with_reducible repeat (first | apply Kd.R_alloc | apply Kd.R_drewN | apply Kd.R_drew)); exact Kd.R_mono (Kd.R_far (p := ⟨gb302, 1, none⟩) (Kd.R_far (p := ⟨gb302, 0, none⟩) (Kd.R_types HO299.out BK302.out Q12) (fun _ hk => hk.2) (.slice Ao35 t297.length co35)) (fun _ hk => hk.2) (.int .u8 t300)) (fun _ hk => trivial)⟩
           have n1_ : Aside0 (((w34.setCell ⟨gb302, 0, none⟩ (.slice Ao35 t297.length co35)).setCell ⟨gb302, 1, none⟩ (.int .u8 t300)).heap[gb295]? = some (.cells #[.int .i64 0, .int .i64 0, .bool false, .bool false] 234 (0, 0))) := ⟨Q116⟩
           have n2_ : Aside0 (((w34.setCell ⟨gb302, 0, none⟩ (.slice Ao35 t297.length co35)).setCell ⟨gb302, 1, none⟩ (.int .u8 t300)).heap[gb302]? = some (.cells #[.slice Ao35 t297.length co35, .int .u8 t300] 139 (0, 0))) := ⟨by (with_reducible repeat (first | refine blk_drewN ?_ _ | refine blk_drew ?_ | refine blk_alloc ?_ _)); refine blk_put (cs := #[.slice Ao35 t297.length co35, .int .u8 0]) ?_ 1 _ rfl; (with_reducible repeat (first | refine blk_drewN ?_ _ | refine blk_drew ?_ | refine blk_alloc ?_ _)); refine blk_put (cs := #[.slice none 0 0, .int .u8 0]) ?_ 0 _ rfl; (with_reducible repeat (first | refine blk_drewN ?_ _ | refine blk_drew ?_ | refine blk_alloc ?_ _)); exact BK302.out⟩
           have n3_ : Aside0 (Below w.heap.size w ((w34.setCell ⟨gb302, 0, none⟩ (.slice Ao35 t297.length co35)).setCell ⟨gb302, 1, none⟩ (.int .u8 t300))) := ⟨Q75⟩
           (try clear HO299)
           (try clear BK295)
           (try clear BK302)
           (try clear HB)
           generalize ((w34.setCell ⟨gb302, 0, none⟩ (.slice Ao35 t297.length co35)).setCell ⟨gb302, 1, none⟩ (.int .u8 t300)) = w38 at n0_ n1_ n2_ n3_ ⊢
           have HO299 := n0_
           have BK295 := n1_
           have BK302 := n2_
           have HB := n3_
           clear n0_ n1_ n2_ n3_
           have n0_ := Aside0.mk (Kd.R_drew HO299.out)
           have n1_ := Aside0.mk (blk_drew BK295.out)
           have n2_ := Aside0.mk (blk_drew BK302.out)
           have n3_ := Aside0.mk (below_drew1 HB.out)
           clear HO299
           clear BK295
           clear BK302
           clear HB
           have HO299 := n0_
           have BK295 := n1_
           have BK302 := n2_
           have HB := n3_
           clear n0_ n1_ n2_ n3_
           refine start_ (n := 11) (S := fun w' => w'.cell? ⟨gb302, 0, none⟩ = some (.slice Ao35 t297.length co35) ∧ w'.cell? ⟨gb302, 1, none⟩ = some (.int .u8 t300)) (ds := []) #[false, false, false, false, false, false, false, false, false, false, false] Q0 rfl rfl ⟨(blk_cell BK302.out 0).trans rfl, (blk_cell BK302.out 1).trans rfl⟩ (fun hHeld => ?_); refine with_tabW vcode_shapeOf.tab27 vcode_shapeOf.bits27 (fun HT_ HW_ => ?_)
           generalize w38.drew = w39 at HO299 BK295 BK302 HB hHeld ⊢
           refine pure_ (i := 0) (N := some 51) (bv 11 1) rfl rfl Q152 (fun _ _ _ h => h) Q153 Q5 ?_
           refine pure_ (i := 3) (N := some 54) (bv 11 9) rfl rfl Q152 (fun _ _ _ h => h) Q153 Q5 ?_
           refine pure_ (i := 7) (N := some 58) (bv 11 137) rfl rfl Q152 (fun _ _ _ h => h) Q153 Q5 ?_
           refine pure_ (i := 8) (N := some 59) (bv 11 393) rfl rfl Q152 (fun _ _ _ h => h) Q153 Q5 ?_
           refine take_ (i := 1) (N := some 52) (bv 11 395) rfl rfl Q156 (fun _ _ _ h => h) Q164 hHeld Q5 ?_
           refine pure_ (i := 2) (N := some 53) (bv 11 399) rfl rfl Q152 (fun _ _ _ h => h) Q153 Q5 ?_
           refine take_ (i := 4) (N := some 55) (bv 11 415) rfl rfl Q156 (fun _ _ _ h => h) Q164 hHeld Q5 ?_
           refine pure_ (i := 5) (N := some 56) (bv 11 447) rfl rfl Q152 (fun _ _ _ h => h) Q153 Q5 ?_
           refine pure_ (i := 6) (N := some 57) (bv 11 511) rfl rfl Q152 (fun _ _ _ h => h) Q153 Q5 ?_
           refine one_ (i := 9) (N := none) #[true, true, true, true, true, true, true, true, true, true, false] rfl rfl (one_of HT_.out Q0) Q12 (fun K hK => ?_)
           have hs40 : w39.cell? ⟨gb295, 0, none⟩ = some (.int .i64 0) := (blk_cell BK295.out 0).trans rfl
           have hfs40 := blk_frozen BK295.out 0
           have hns40_1 := NB302_295.out
           have hms40_1 := NB295_302.out
           have hs41 : w39.cell? ⟨gb295, 1, none⟩ = some (.int .i64 0) := (blk_cell BK295.out 1).trans rfl
           have hfs41 := blk_frozen BK295.out 1
           have hns41_1 := NB302_295.out
           have hms41_1 := NB295_302.out
           have hs42 : w39.cell? ⟨gb295, 2, none⟩ = some (.bool false) := (blk_cell BK295.out 2).trans rfl
           have hfs42 := blk_frozen BK295.out 2
           have hns42_1 := NB302_295.out
           have hms42_1 := NB295_302.out
           have hs43 : w39.cell? ⟨gb295, 3, none⟩ = some (.bool false) := (blk_cell BK295.out 3).trans rfl
           have hfs43 := blk_frozen BK295.out 3
           have hns43_1 := NB302_295.out
           have hms43_1 := NB295_302.out
           refine skip_ (w1 := ?_) Q2 rfl ?_ ?_
           rotate_left
           ·go_simp
            rfl
           refine hK.out _ _ ⟨((cell_far (p := ⟨gb295, _, none⟩) NB302_295.out _).trans (((cell_far (p := ⟨gb295, _, none⟩) NB302_295.out _).trans (((cell_far (p := ⟨gb295, _, none⟩) NB302_295.out _).trans (((cell_far (p := ⟨gb295, _, none⟩) NB302_295.out _).trans (hHeld.1)))))))), ((cell_far (p := ⟨gb295, _, none⟩) NB302_295.out _).trans (((cell_far (p := ⟨gb295, _, none⟩) NB302_295.out _).trans (((cell_far (p := ⟨gb295, _, none⟩) NB302_295.out _).trans (((cell_far (p := ⟨gb295, _, none⟩) NB302_295.out _).trans (hHeld.2))))))))⟩ (fun hHeld => ?_)
           clear hK K
           refine pure_ (i := 10) (N := some 3) (bv 11 2047) rfl rfl Q152 (fun _ _ _ h => h) Q153 Q5 ?_
           refine done_ (done_of HT_.out Q0) ?_
           try go_wp2
           refine bodyPost_ret (results_ct rfl _ _ gb295 234 #[.int .i64 (t297.length : Int), .int .i64 0, .bool (t300 != 0), .bool false] (0, 0) _ rfl Q117 Tryz.underlying234 rfl Q0) rfl ?_
           exact ⟨Q6, Q75⟩
          have H1 : (some ((t297.length : Int), 0, (t300 != 0), false, false)) = some (r1, r2, r3, r4, r5) := by rw [if_neg (show ¬ (some q303).isNone = true by simp)] at H; exact H
          clear H
          have H := H1
          clear H1
          try simp only [errW_none, errW_some]
          simp only [Option.some.injEq, Prod.mk.injEq] at H
          obtain ⟨rfl, rfl, rfl, rfl, rfl⟩ := H
          try go_wp2_with (first | ((with_reducible refine gate_callee (f := 78) rfl ?_); refine goesL_ (some 38) rfl rfl Tryz.func78 Q0 rfl #[.int .u8 a0] rfl Q9 ?_; (with_reducible refine (vcode_memory.calls a0 true _ ?side1 A29.out).mono ?_); (case side1 => exact GG.nil _); rintro e w44 ⟨rfl, hb⟩; refine ⟨_, rfl, ?_⟩; have n0_ := Aside0.mk (blk_below (g := gb295) (o := .cells #[.int .i64 0, .int .i64 0, .bool false, .bool false] 234 (0, 0)) Q23 hb); have n1_ := Aside0.mk (below_step Q16 hb); clear BK295; clear HB; have BK295 := n0_; have HB := n1_; clear n0_ n1_; (try clear hb); (try clear hb2); (try clear hk); (try clear hi)) | ((with_reducible refine gate_callee (f := 115) rfl ?_); refine goesL_ (some 48) rfl rfl Tryz.func115 Q0 rfl #[.int .u8 a0] rfl Q9 ?_; (with_reducible refine (ops_Sign.calls kj18 a0 t297 t300 (some q303) _ ?side1 A31.out).mono ?_); (case side1 => exact GG.below Q16 HG.out); rintro e w45 ⟨v298, rfl, ho0, hb⟩; refine ⟨_, rfl, ?_⟩; have n0_ := Aside0.mk (Kd.R_lower ho0 (below_size Q16)); have n1_ := Aside0.mk (blk_below (g := gb295) (o := .cells #[.int .i64 0, .int .i64 0, .bool false, .bool false] 234 (0, 0)) Q23 hb); have n2_ := Aside0.mk (below_step Q16 hb); clear BK295; clear HB; have HO299 := n0_; have BK295 := n1_; have HB := n2_; clear n0_ n1_ n2_; (try clear hb); (try clear hb2); (try clear hk); (try clear hi); (try clear ho0); (try simp only [errW_none, errW_some])) | ((with_reducible refine gate_dst (N := 4) rfl ?_); refine box_event ?hg (N := 4) ?hd (cs := #[.slice none 0 0, .int .u8 0]) (t := 139) ?hr ?_; (case hd => rfl); (case hg => rfl); (case hr => first | (go_simp; done) | (go_simp; rfl)); intro gb302 hg w46 hbox hb; have n0_ := Aside0.mk (Kd.R_below Q115 hb); have n1_ := Aside0.mk (blk_below (g := gb295) (o := .cells #[.int .i64 0, .int .i64 0, .bool false, .bool false] 234 (0, 0)) Q23 hb); have n2_ := Aside0.mk (below_step Q16 hb); have n3_ := Aside0.mk (hbox); have n4_ := Aside0.mk ((Q163 : w.heap.size ≤ gb302)); have n5_ := Aside0.mk ((Q163 : w.heap.size ≤ gb302)); have n6_ := Aside0.mk ((Q169 : gb295 ≠ gb302)); have n7_ := Aside0.mk ((Q170 : gb302 ≠ gb295)); clear HO299; clear BK295; clear HB; have HO299 := n0_; have BK295 := n1_; have HB := n2_; have BK302 := n3_; have GW302 := n4_; have GE302 := n5_; have NB295_302 := n6_; have NB302_295 := n7_; clear n0_ n1_ n2_ n3_ n4_ n5_ n6_ n7_; clear hb hbox hg; obtain ⟨Ao47, co47, eo47⟩ := Kd.R_slice HO299.out; subst eo47; have hnb48 := NB302_295.out; have hnc48 := NB295_302.out; have hcz49_0 : w46.cell? ⟨gb302, 0, none⟩ = some (.slice none 0 0) := (blk_cell BK302.out 0).trans rfl; have hcz49_1 : w46.cell? ⟨gb302, 1, none⟩ = some (.int .u8 0) := (blk_cell BK302.out 1).trans rfl; have hfz49_0 := blk_frozen BK302.out 0; have hfz49_1 := blk_frozen BK302.out 1))
          have n0_ : Aside0 (Kd.R (Kd.int .u8) 137 ((w46.setCell ⟨gb302, 0, none⟩ (.slice Ao47 t297.length co47)).setCell ⟨gb302, 1, none⟩ (.int .u8 t300)) w.heap.size (fun _ => True) (.slice Ao47 t297.length co47) t297) := ⟨by (with_reducible repeat (first | apply Kd.R_alloc | apply Kd.R_drewN | apply Kd.R_drew)); exact Kd.R_mono (Kd.R_far (p := ⟨gb302, 1, none⟩) (Kd.R_far (p := ⟨gb302, 0, none⟩) (Kd.R_types HO299.out BK302.out Q12) (fun _ hk => hk.2) (.slice Ao47 t297.length co47)) (fun _ hk => hk.2) (.int .u8 t300)) (fun _ hk => trivial)⟩
          have n1_ : Aside0 (((w46.setCell ⟨gb302, 0, none⟩ (.slice Ao47 t297.length co47)).setCell ⟨gb302, 1, none⟩ (.int .u8 t300)).heap[gb295]? = some (.cells #[.int .i64 0, .int .i64 0, .bool false, .bool false] 234 (0, 0))) := ⟨Q116⟩
          have n2_ : Aside0 (((w46.setCell ⟨gb302, 0, none⟩ (.slice Ao47 t297.length co47)).setCell ⟨gb302, 1, none⟩ (.int .u8 t300)).heap[gb302]? = some (.cells #[.slice Ao47 t297.length co47, .int .u8 t300] 139 (0, 0))) := ⟨by (with_reducible repeat (first | refine blk_drewN ?_ _ | refine blk_drew ?_ | refine blk_alloc ?_ _)); refine blk_put (cs := #[.slice Ao47 t297.length co47, .int .u8 0]) ?_ 1 _ rfl; (with_reducible repeat (first | refine blk_drewN ?_ _ | refine blk_drew ?_ | refine blk_alloc ?_ _)); refine blk_put (cs := #[.slice none 0 0, .int .u8 0]) ?_ 0 _ rfl; (with_reducible repeat (first | refine blk_drewN ?_ _ | refine blk_drew ?_ | refine blk_alloc ?_ _)); exact BK302.out⟩
          have n3_ : Aside0 (Below w.heap.size w ((w46.setCell ⟨gb302, 0, none⟩ (.slice Ao47 t297.length co47)).setCell ⟨gb302, 1, none⟩ (.int .u8 t300))) := ⟨Q75⟩
          (try clear HO299)
          (try clear BK295)
          (try clear BK302)
          (try clear HB)
          generalize ((w46.setCell ⟨gb302, 0, none⟩ (.slice Ao47 t297.length co47)).setCell ⟨gb302, 1, none⟩ (.int .u8 t300)) = w50 at n0_ n1_ n2_ n3_ ⊢
          have HO299 := n0_
          have BK295 := n1_
          have BK302 := n2_
          have HB := n3_
          clear n0_ n1_ n2_ n3_
          have n0_ := Aside0.mk (Kd.R_drew HO299.out)
          have n1_ := Aside0.mk (blk_drew BK295.out)
          have n2_ := Aside0.mk (blk_drew BK302.out)
          have n3_ := Aside0.mk (below_drew1 HB.out)
          clear HO299
          clear BK295
          clear BK302
          clear HB
          have HO299 := n0_
          have BK295 := n1_
          have BK302 := n2_
          have HB := n3_
          clear n0_ n1_ n2_ n3_
          refine start_ (n := 11) (S := fun w' => w'.cell? ⟨gb302, 0, none⟩ = some (.slice Ao47 t297.length co47) ∧ w'.cell? ⟨gb302, 1, none⟩ = some (.int .u8 t300)) (ds := []) #[false, false, false, false, false, false, false, false, false, false, false] Q0 rfl rfl ⟨(blk_cell BK302.out 0).trans rfl, (blk_cell BK302.out 1).trans rfl⟩ (fun hHeld => ?_); refine with_tabW vcode_shapeOf.tab27 vcode_shapeOf.bits27 (fun HT_ HW_ => ?_)
          generalize w50.drew = w51 at HO299 BK295 BK302 HB hHeld ⊢
          refine pure_ (i := 0) (N := some 51) (bv 11 1) rfl rfl Q152 (fun _ _ _ h => h) Q153 Q5 ?_
          refine pure_ (i := 3) (N := some 54) (bv 11 9) rfl rfl Q152 (fun _ _ _ h => h) Q153 Q5 ?_
          refine pure_ (i := 7) (N := some 58) (bv 11 137) rfl rfl Q152 (fun _ _ _ h => h) Q153 Q5 ?_
          refine pure_ (i := 8) (N := some 59) (bv 11 393) rfl rfl Q152 (fun _ _ _ h => h) Q153 Q5 ?_
          refine take_ (i := 1) (N := some 52) (bv 11 395) rfl rfl Q156 (fun _ _ _ h => h) Q164 hHeld Q5 ?_
          refine pure_ (i := 2) (N := some 53) (bv 11 399) rfl rfl Q152 (fun _ _ _ h => h) Q153 Q5 ?_
          refine take_ (i := 4) (N := some 55) (bv 11 415) rfl rfl Q156 (fun _ _ _ h => h) Q164 hHeld Q5 ?_
          refine pure_ (i := 5) (N := some 56) (bv 11 447) rfl rfl Q152 (fun _ _ _ h => h) Q153 Q5 ?_
          refine pure_ (i := 6) (N := some 57) (bv 11 511) rfl rfl Q152 (fun _ _ _ h => h) Q153 Q5 ?_
          refine one_ (i := 9) (N := none) #[true, true, true, true, true, true, true, true, true, true, false] rfl rfl (one_of HT_.out Q0) Q12 (fun K hK => ?_)
          have hs52 : w51.cell? ⟨gb295, 0, none⟩ = some (.int .i64 0) := (blk_cell BK295.out 0).trans rfl
          have hfs52 := blk_frozen BK295.out 0
          have hns52_1 := NB302_295.out
          have hms52_1 := NB295_302.out
          have hs53 : w51.cell? ⟨gb295, 1, none⟩ = some (.int .i64 0) := (blk_cell BK295.out 1).trans rfl
          have hfs53 := blk_frozen BK295.out 1
          have hns53_1 := NB302_295.out
          have hms53_1 := NB295_302.out
          have hs54 : w51.cell? ⟨gb295, 2, none⟩ = some (.bool false) := (blk_cell BK295.out 2).trans rfl
          have hfs54 := blk_frozen BK295.out 2
          have hns54_1 := NB302_295.out
          have hms54_1 := NB295_302.out
          have hs55 : w51.cell? ⟨gb295, 3, none⟩ = some (.bool false) := (blk_cell BK295.out 3).trans rfl
          have hfs55 := blk_frozen BK295.out 3
          have hns55_1 := NB302_295.out
          have hms55_1 := NB295_302.out
          refine skip_ (w1 := ?_) Q2 rfl ?_ ?_
          rotate_left
          ·go_simp
           rfl
          refine hK.out _ _ ⟨((cell_far (p := ⟨gb295, _, none⟩) NB302_295.out _).trans (((cell_far (p := ⟨gb295, _, none⟩) NB302_295.out _).trans (((cell_far (p := ⟨gb295, _, none⟩) NB302_295.out _).trans (((cell_far (p := ⟨gb295, _, none⟩) NB302_295.out _).trans (hHeld.1)))))))), ((cell_far (p := ⟨gb295, _, none⟩) NB302_295.out _).trans (((cell_far (p := ⟨gb295, _, none⟩) NB302_295.out _).trans (((cell_far (p := ⟨gb295, _, none⟩) NB302_295.out _).trans (((cell_far (p := ⟨gb295, _, none⟩) NB302_295.out _).trans (hHeld.2))))))))⟩ (fun hHeld => ?_)
          clear hK K
          refine pure_ (i := 10) (N := some 3) (bv 11 2047) rfl rfl Q152 (fun _ _ _ h => h) Q153 Q5 ?_
          refine done_ (done_of HT_.out Q0) ?_
          try go_wp2
          refine bodyPost_ret (results_ct rfl _ _ gb295 234 #[.int .i64 (t297.length : Int), .int .i64 0, .bool (t300 != 0), .bool false] (0, 0) _ rfl Q117 Tryz.underlying234 rfl Q0) rfl ?_
          exact ⟨Q6, Q75⟩
         replace c30 := Bool.eq_false_iff.mpr c30
         subst c30
         have H1 : ((vcode_reckons.f a0).bind fun t304 => (if t304 = true then ((ops_Sign.f kj18 a0).bind fun bt305 => (if bt305.2.2.isNone = true then (some ((bt305.1.length : Int), 0, (bt305.2.1 != 0), false, true)) else (some ((bt305.1.length : Int), 0, (bt305.2.1 != 0), false, false)))) else (some (0, 0, false, false, false)))) = some (r1, r2, r3, r4, r5) := by rw [if_neg (show ¬ (false = true) by decide)] at H; exact H
         clear H
         have H := H1
         clear H1
         replace H := Option.bind_eq_some_iff.mp H
         obtain ⟨t304, A560, H⟩ := H
         replace H : (if t304 = true then ((ops_Sign.f kj18 a0).bind fun bt305 => (if bt305.2.2.isNone = true then (some ((bt305.1.length : Int), 0, (bt305.2.1 != 0), false, true)) else (some ((bt305.1.length : Int), 0, (bt305.2.1 != 0), false, false)))) else (some (0, 0, false, false, false))) = some (r1, r2, r3, r4, r5) := H
         have A56 := Aside0.mk A560
         clear A560
         by_cases c57 : t304 = true
         ·subst c57
          have H1 : ((ops_Sign.f kj18 a0).bind fun bt305 => (if bt305.2.2.isNone = true then (some ((bt305.1.length : Int), 0, (bt305.2.1 != 0), false, true)) else (some ((bt305.1.length : Int), 0, (bt305.2.1 != 0), false, false)))) = some (r1, r2, r3, r4, r5) := Q14
          clear H
          have H := H1
          clear H1
          replace H := Option.bind_eq_some_iff.mp H
          obtain ⟨⟨t305, t308, t309⟩, A580, H⟩ := H
          replace H : (if t309.isNone = true then (some ((t305.length : Int), 0, (t308 != 0), false, true)) else (some ((t305.length : Int), 0, (t308 != 0), false, false))) = some (r1, r2, r3, r4, r5) := H
          have A58 := Aside0.mk A580
          clear A580
          rcases t309 with _ | q311
          ·have H1 : (some ((t305.length : Int), 0, (t308 != 0), false, true)) = some (r1, r2, r3, r4, r5) := by rw [if_pos (show (none : Option Int).isNone = true by rfl)] at H; exact H
           clear H
           have H := H1
           clear H1
           try simp only [errW_none, errW_some]
           simp only [Option.some.injEq, Prod.mk.injEq] at H
           obtain ⟨rfl, rfl, rfl, rfl, rfl⟩ := H
           try go_wp2_with (first | ((with_reducible refine gate_callee (f := 78) rfl ?_); refine goesL_ (some 38) rfl rfl Tryz.func78 Q0 rfl #[.int .u8 a0] rfl Q9 ?_; (with_reducible refine (vcode_memory.calls a0 false _ ?side1 A29.out).mono ?_); (case side1 => exact GG.nil _); rintro e w59 ⟨rfl, hb⟩; refine ⟨_, rfl, ?_⟩; have n0_ := Aside0.mk (blk_below (g := gb295) (o := .cells #[.int .i64 0, .int .i64 0, .bool false, .bool false] 234 (0, 0)) Q23 hb); have n1_ := Aside0.mk (below_step Q16 hb); clear BK295; clear HB; have BK295 := n0_; have HB := n1_; clear n0_ n1_; (try clear hb); (try clear hb2); (try clear hk); (try clear hi)) | (go_at_call 72; (with_reducible refine (vcode_reckons.calls a0 true _ ?side1 A56.out).mono ?_); (case side1 => exact GG.nil _); rintro e w60 ⟨rfl, hb⟩; have n0_ := Aside0.mk (blk_below (g := gb295) (o := .cells #[.int .i64 0, .int .i64 0, .bool false, .bool false] 234 (0, 0)) Q23 hb); have n1_ := Aside0.mk (below_step Q16 hb); clear BK295; clear HB; have BK295 := n0_; have HB := n1_; clear n0_ n1_; (try clear hb); (try clear hb2); (try clear hk); (try clear hi)) | ((with_reducible refine gate_callee (f := 115) rfl ?_); refine goesL_ (some 48) rfl rfl Tryz.func115 Q0 rfl #[.int .u8 a0] rfl Q9 ?_; (with_reducible refine (ops_Sign.calls kj18 a0 t305 t308 none _ ?side1 A58.out).mono ?_); (case side1 => exact GG.below Q16 HG.out); rintro e w61 ⟨v306, rfl, ho0, hb⟩; refine ⟨_, rfl, ?_⟩; have n0_ := Aside0.mk (Kd.R_lower ho0 (below_size Q16)); have n1_ := Aside0.mk (blk_below (g := gb295) (o := .cells #[.int .i64 0, .int .i64 0, .bool false, .bool false] 234 (0, 0)) Q23 hb); have n2_ := Aside0.mk (below_step Q16 hb); clear BK295; clear HB; have HO307 := n0_; have BK295 := n1_; have HB := n2_; clear n0_ n1_ n2_; (try clear hb); (try clear hb2); (try clear hk); (try clear hi); (try clear ho0); (try simp only [errW_none, errW_some])) | ((with_reducible refine gate_dst (N := 4) rfl ?_); refine box_event ?hg (N := 4) ?hd (cs := #[.slice none 0 0, .int .u8 0]) (t := 139) ?hr ?_; (case hd => rfl); (case hg => rfl); (case hr => first | (go_simp; done) | (go_simp; rfl)); intro gb310 hg w62 hbox hb; have n0_ := Aside0.mk (Kd.R_below Q118 hb); have n1_ := Aside0.mk (blk_below (g := gb295) (o := .cells #[.int .i64 0, .int .i64 0, .bool false, .bool false] 234 (0, 0)) Q23 hb); have n2_ := Aside0.mk (below_step Q16 hb); have n3_ := Aside0.mk (hbox); have n4_ := Aside0.mk ((Q163 : w.heap.size ≤ gb310)); have n5_ := Aside0.mk ((Q163 : w.heap.size ≤ gb310)); have n6_ := Aside0.mk ((Q169 : gb295 ≠ gb310)); have n7_ := Aside0.mk ((Q170 : gb310 ≠ gb295)); clear HO307; clear BK295; clear HB; have HO307 := n0_; have BK295 := n1_; have HB := n2_; have BK310 := n3_; have GW310 := n4_; have GE310 := n5_; have NB295_310 := n6_; have NB310_295 := n7_; clear n0_ n1_ n2_ n3_ n4_ n5_ n6_ n7_; clear hb hbox hg; obtain ⟨Ao63, co63, eo63⟩ := Kd.R_slice HO307.out; subst eo63; have hnb64 := NB310_295.out; have hnc64 := NB295_310.out; have hcz65_0 : w62.cell? ⟨gb310, 0, none⟩ = some (.slice none 0 0) := (blk_cell BK310.out 0).trans rfl; have hcz65_1 : w62.cell? ⟨gb310, 1, none⟩ = some (.int .u8 0) := (blk_cell BK310.out 1).trans rfl; have hfz65_0 := blk_frozen BK310.out 0; have hfz65_1 := blk_frozen BK310.out 1))
           have n0_ : Aside0 (Kd.R (Kd.int .u8) 137 ((w62.setCell ⟨gb310, 0, none⟩ (.slice Ao63 t305.length co63)).setCell ⟨gb310, 1, none⟩ (.int .u8 t308)) w.heap.size (fun _ => True) (.slice Ao63 t305.length co63) t305) := ⟨by (with_reducible repeat (first | apply Kd.R_alloc | apply Kd.R_drewN | apply Kd.R_drew)); exact Kd.R_mono (Kd.R_far (p := ⟨gb310, 1, none⟩) (Kd.R_far (p := ⟨gb310, 0, none⟩) (Kd.R_types HO307.out BK310.out Q12) (fun _ hk => hk.2) (.slice Ao63 t305.length co63)) (fun _ hk => hk.2) (.int .u8 t308)) (fun _ hk => trivial)⟩
           have n1_ : Aside0 (((w62.setCell ⟨gb310, 0, none⟩ (.slice Ao63 t305.length co63)).setCell ⟨gb310, 1, none⟩ (.int .u8 t308)).heap[gb295]? = some (.cells #[.int .i64 0, .int .i64 0, .bool false, .bool false] 234 (0, 0))) := ⟨Q119⟩
           have n2_ : Aside0 (((w62.setCell ⟨gb310, 0, none⟩ (.slice Ao63 t305.length co63)).setCell ⟨gb310, 1, none⟩ (.int .u8 t308)).heap[gb310]? = some (.cells #[.slice Ao63 t305.length co63, .int .u8 t308] 139 (0, 0))) := ⟨by (with_reducible repeat (first | refine blk_drewN ?_ _ | refine blk_drew ?_ | refine blk_alloc ?_ _)); refine blk_put (cs := #[.slice Ao63 t305.length co63, .int .u8 0]) ?_ 1 _ rfl; (with_reducible repeat (first | refine blk_drewN ?_ _ | refine blk_drew ?_ | refine blk_alloc ?_ _)); refine blk_put (cs := #[.slice none 0 0, .int .u8 0]) ?_ 0 _ rfl; (with_reducible repeat (first | refine blk_drewN ?_ _ | refine blk_drew ?_ | refine blk_alloc ?_ _)); exact BK310.out⟩
           have n3_ : Aside0 (Below w.heap.size w ((w62.setCell ⟨gb310, 0, none⟩ (.slice Ao63 t305.length co63)).setCell ⟨gb310, 1, none⟩ (.int .u8 t308))) := ⟨Q76⟩
           (try clear HO307)
           (try clear BK295)
           (try clear BK310)
           (try clear HB)
           generalize ((w62.setCell ⟨gb310, 0, none⟩ (.slice Ao63 t305.length co63)).setCell ⟨gb310, 1, none⟩ (.int .u8 t308)) = w66 at n0_ n1_ n2_ n3_ ⊢
           have HO307 := n0_
           have BK295 := n1_
           have BK310 := n2_
           have HB := n3_
           clear n0_ n1_ n2_ n3_
           have n0_ := Aside0.mk (Kd.R_drew HO307.out)
           have n1_ := Aside0.mk (blk_drew BK295.out)
           have n2_ := Aside0.mk (blk_drew BK310.out)
           have n3_ := Aside0.mk (below_drew1 HB.out)
           clear HO307
           clear BK295
           clear BK310
           clear HB
           have HO307 := n0_
           have BK295 := n1_
           have BK310 := n2_
           have HB := n3_
           clear n0_ n1_ n2_ n3_
           refine start_ (n := 11) (S := fun w' => w'.cell? ⟨gb310, 0, none⟩ = some (.slice Ao63 t305.length co63) ∧ w'.cell? ⟨gb310, 1, none⟩ = some (.int .u8 t308)) (ds := []) #[false, false, false, false, false, false, false, false, false, false, false] Q0 rfl rfl ⟨(blk_cell BK310.out 0).trans rfl, (blk_cell BK310.out 1).trans rfl⟩ (fun hHeld => ?_); refine with_tabW vcode_shapeOf.tab27 vcode_shapeOf.bits27 (fun HT_ HW_ => ?_)
           generalize w66.drew = w67 at HO307 BK295 BK310 HB hHeld ⊢
           refine pure_ (i := 0) (N := some 51) (bv 11 1) rfl rfl Q152 (fun _ _ _ h => h) Q153 Q5 ?_
           refine pure_ (i := 3) (N := some 54) (bv 11 9) rfl rfl Q152 (fun _ _ _ h => h) Q153 Q5 ?_
           refine pure_ (i := 7) (N := some 58) (bv 11 137) rfl rfl Q152 (fun _ _ _ h => h) Q153 Q5 ?_
           refine pure_ (i := 8) (N := some 59) (bv 11 393) rfl rfl Q152 (fun _ _ _ h => h) Q153 Q5 ?_
           refine take_ (i := 1) (N := some 52) (bv 11 395) rfl rfl Q156 (fun _ _ _ h => h) Q164 hHeld Q5 ?_
           refine pure_ (i := 2) (N := some 53) (bv 11 399) rfl rfl Q152 (fun _ _ _ h => h) Q153 Q5 ?_
           refine take_ (i := 4) (N := some 55) (bv 11 415) rfl rfl Q156 (fun _ _ _ h => h) Q164 hHeld Q5 ?_
           refine pure_ (i := 5) (N := some 56) (bv 11 447) rfl rfl Q152 (fun _ _ _ h => h) Q153 Q5 ?_
           refine pure_ (i := 6) (N := some 57) (bv 11 511) rfl rfl Q152 (fun _ _ _ h => h) Q153 Q5 ?_
           refine one_ (i := 9) (N := none) #[true, true, true, true, true, true, true, true, true, true, false] rfl rfl (one_of HT_.out Q0) Q12 (fun K hK => ?_)
           have hs68 : w67.cell? ⟨gb295, 0, none⟩ = some (.int .i64 0) := (blk_cell BK295.out 0).trans rfl
           have hfs68 := blk_frozen BK295.out 0
           have hns68_1 := NB310_295.out
           have hms68_1 := NB295_310.out
           have hs69 : w67.cell? ⟨gb295, 1, none⟩ = some (.int .i64 0) := (blk_cell BK295.out 1).trans rfl
           have hfs69 := blk_frozen BK295.out 1
           have hns69_1 := NB310_295.out
           have hms69_1 := NB295_310.out
           have hs70 : w67.cell? ⟨gb295, 2, none⟩ = some (.bool false) := (blk_cell BK295.out 2).trans rfl
           have hfs70 := blk_frozen BK295.out 2
           have hns70_1 := NB310_295.out
           have hms70_1 := NB295_310.out
           have hs71 : w67.cell? ⟨gb295, 3, none⟩ = some (.bool false) := (blk_cell BK295.out 3).trans rfl
           have hfs71 := blk_frozen BK295.out 3
           have hns71_1 := NB310_295.out
           have hms71_1 := NB295_310.out
           refine skip_ (w1 := ?_) Q2 rfl ?_ ?_
           rotate_left
           ·go_simp
            rfl
           refine hK.out _ _ ⟨((cell_far (p := ⟨gb295, _, none⟩) NB310_295.out _).trans (((cell_far (p := ⟨gb295, _, none⟩) NB310_295.out _).trans (((cell_far (p := ⟨gb295, _, none⟩) NB310_295.out _).trans (((cell_far (p := ⟨gb295, _, none⟩) NB310_295.out _).trans (hHeld.1)))))))), ((cell_far (p := ⟨gb295, _, none⟩) NB310_295.out _).trans (((cell_far (p := ⟨gb295, _, none⟩) NB310_295.out _).trans (((cell_far (p := ⟨gb295, _, none⟩) NB310_295.out _).trans (((cell_far (p := ⟨gb295, _, none⟩) NB310_295.out _).trans (hHeld.2))))))))⟩ (fun hHeld => ?_)
           clear hK K
           refine pure_ (i := 10) (N := some 3) (bv 11 2047) rfl rfl Q152 (fun _ _ _ h => h) Q153 Q5 ?_
           refine done_ (done_of HT_.out Q0) ?_
           try go_wp2
           refine bodyPost_ret (results_ct rfl _ _ gb295 234 #[.int .i64 (t305.length : Int), .int .i64 0, .bool (t308 != 0), .bool false] (0, 0) _ rfl Q120 Tryz.underlying234 rfl Q0) rfl ?_
           exact ⟨Q6, Q76⟩
          have H1 : (some ((t305.length : Int), 0, (t308 != 0), false, false)) = some (r1, r2, r3, r4, r5) := by rw [if_neg (show ¬ (some q311).isNone = true by simp)] at H; exact H
          clear H
          have H := H1
          clear H1
          try simp only [errW_none, errW_some]
          simp only [Option.some.injEq, Prod.mk.injEq] at H
          obtain ⟨rfl, rfl, rfl, rfl, rfl⟩ := H
          try go_wp2_with (first | ((with_reducible refine gate_callee (f := 78) rfl ?_); refine goesL_ (some 38) rfl rfl Tryz.func78 Q0 rfl #[.int .u8 a0] rfl Q9 ?_; (with_reducible refine (vcode_memory.calls a0 false _ ?side1 A29.out).mono ?_); (case side1 => exact GG.nil _); rintro e w72 ⟨rfl, hb⟩; refine ⟨_, rfl, ?_⟩; have n0_ := Aside0.mk (blk_below (g := gb295) (o := .cells #[.int .i64 0, .int .i64 0, .bool false, .bool false] 234 (0, 0)) Q23 hb); have n1_ := Aside0.mk (below_step Q16 hb); clear BK295; clear HB; have BK295 := n0_; have HB := n1_; clear n0_ n1_; (try clear hb); (try clear hb2); (try clear hk); (try clear hi)) | (go_at_call 72; (with_reducible refine (vcode_reckons.calls a0 true _ ?side1 A56.out).mono ?_); (case side1 => exact GG.nil _); rintro e w73 ⟨rfl, hb⟩; have n0_ := Aside0.mk (blk_below (g := gb295) (o := .cells #[.int .i64 0, .int .i64 0, .bool false, .bool false] 234 (0, 0)) Q23 hb); have n1_ := Aside0.mk (below_step Q16 hb); clear BK295; clear HB; have BK295 := n0_; have HB := n1_; clear n0_ n1_; (try clear hb); (try clear hb2); (try clear hk); (try clear hi)) | ((with_reducible refine gate_callee (f := 115) rfl ?_); refine goesL_ (some 48) rfl rfl Tryz.func115 Q0 rfl #[.int .u8 a0] rfl Q9 ?_; (with_reducible refine (ops_Sign.calls kj18 a0 t305 t308 (some q311) _ ?side1 A58.out).mono ?_); (case side1 => exact GG.below Q16 HG.out); rintro e w74 ⟨v306, rfl, ho0, hb⟩; refine ⟨_, rfl, ?_⟩; have n0_ := Aside0.mk (Kd.R_lower ho0 (below_size Q16)); have n1_ := Aside0.mk (blk_below (g := gb295) (o := .cells #[.int .i64 0, .int .i64 0, .bool false, .bool false] 234 (0, 0)) Q23 hb); have n2_ := Aside0.mk (below_step Q16 hb); clear BK295; clear HB; have HO307 := n0_; have BK295 := n1_; have HB := n2_; clear n0_ n1_ n2_; (try clear hb); (try clear hb2); (try clear hk); (try clear hi); (try clear ho0); (try simp only [errW_none, errW_some])) | ((with_reducible refine gate_dst (N := 4) rfl ?_); refine box_event ?hg (N := 4) ?hd (cs := #[.slice none 0 0, .int .u8 0]) (t := 139) ?hr ?_; (case hd => rfl); (case hg => rfl); (case hr => first | (go_simp; done) | (go_simp; rfl)); intro gb310 hg w75 hbox hb; have n0_ := Aside0.mk (Kd.R_below Q118 hb); have n1_ := Aside0.mk (blk_below (g := gb295) (o := .cells #[.int .i64 0, .int .i64 0, .bool false, .bool false] 234 (0, 0)) Q23 hb); have n2_ := Aside0.mk (below_step Q16 hb); have n3_ := Aside0.mk (hbox); have n4_ := Aside0.mk ((Q163 : w.heap.size ≤ gb310)); have n5_ := Aside0.mk ((Q163 : w.heap.size ≤ gb310)); have n6_ := Aside0.mk ((Q169 : gb295 ≠ gb310)); have n7_ := Aside0.mk ((Q170 : gb310 ≠ gb295)); clear HO307; clear BK295; clear HB; have HO307 := n0_; have BK295 := n1_; have HB := n2_; have BK310 := n3_; have GW310 := n4_; have GE310 := n5_; have NB295_310 := n6_; have NB310_295 := n7_; clear n0_ n1_ n2_ n3_ n4_ n5_ n6_ n7_; clear hb hbox hg; obtain ⟨Ao76, co76, eo76⟩ := Kd.R_slice HO307.out; subst eo76; have hnb77 := NB310_295.out; have hnc77 := NB295_310.out; have hcz78_0 : w75.cell? ⟨gb310, 0, none⟩ = some (.slice none 0 0) := (blk_cell BK310.out 0).trans rfl; have hcz78_1 : w75.cell? ⟨gb310, 1, none⟩ = some (.int .u8 0) := (blk_cell BK310.out 1).trans rfl; have hfz78_0 := blk_frozen BK310.out 0; have hfz78_1 := blk_frozen BK310.out 1))
          have n0_ : Aside0 (Kd.R (Kd.int .u8) 137 ((w75.setCell ⟨gb310, 0, none⟩ (.slice Ao76 t305.length co76)).setCell ⟨gb310, 1, none⟩ (.int .u8 t308)) w.heap.size (fun _ => True) (.slice Ao76 t305.length co76) t305) := ⟨by (with_reducible repeat (first | apply Kd.R_alloc | apply Kd.R_drewN | apply Kd.R_drew)); exact Kd.R_mono (Kd.R_far (p := ⟨gb310, 1, none⟩) (Kd.R_far (p := ⟨gb310, 0, none⟩) (Kd.R_types HO307.out BK310.out Q12) (fun _ hk => hk.2) (.slice Ao76 t305.length co76)) (fun _ hk => hk.2) (.int .u8 t308)) (fun _ hk => trivial)⟩
          have n1_ : Aside0 (((w75.setCell ⟨gb310, 0, none⟩ (.slice Ao76 t305.length co76)).setCell ⟨gb310, 1, none⟩ (.int .u8 t308)).heap[gb295]? = some (.cells #[.int .i64 0, .int .i64 0, .bool false, .bool false] 234 (0, 0))) := ⟨Q119⟩
          have n2_ : Aside0 (((w75.setCell ⟨gb310, 0, none⟩ (.slice Ao76 t305.length co76)).setCell ⟨gb310, 1, none⟩ (.int .u8 t308)).heap[gb310]? = some (.cells #[.slice Ao76 t305.length co76, .int .u8 t308] 139 (0, 0))) := ⟨by (with_reducible repeat (first | refine blk_drewN ?_ _ | refine blk_drew ?_ | refine blk_alloc ?_ _)); refine blk_put (cs := #[.slice Ao76 t305.length co76, .int .u8 0]) ?_ 1 _ rfl; (with_reducible repeat (first | refine blk_drewN ?_ _ | refine blk_drew ?_ | refine blk_alloc ?_ _)); refine blk_put (cs := #[.slice none 0 0, .int .u8 0]) ?_ 0 _ rfl; (with_reducible repeat (first | refine blk_drewN ?_ _ | refine blk_drew ?_ | refine blk_alloc ?_ _)); exact BK310.out⟩
          have n3_ : Aside0 (Below w.heap.size w ((w75.setCell ⟨gb310, 0, none⟩ (.slice Ao76 t305.length co76)).setCell ⟨gb310, 1, none⟩ (.int .u8 t308))) := ⟨Q76⟩
          (try clear HO307)
          (try clear BK295)
          (try clear BK310)
          (try clear HB)
          generalize ((w75.setCell ⟨gb310, 0, none⟩ (.slice Ao76 t305.length co76)).setCell ⟨gb310, 1, none⟩ (.int .u8 t308)) = w79 at n0_ n1_ n2_ n3_ ⊢
          have HO307 := n0_
          have BK295 := n1_
          have BK310 := n2_
          have HB := n3_
          clear n0_ n1_ n2_ n3_
          have n0_ := Aside0.mk (Kd.R_drew HO307.out)
          have n1_ := Aside0.mk (blk_drew BK295.out)
          have n2_ := Aside0.mk (blk_drew BK310.out)
          have n3_ := Aside0.mk (below_drew1 HB.out)
          clear HO307
          clear BK295
          clear BK310
          clear HB
          have HO307 := n0_
          have BK295 := n1_
          have BK310 := n2_
          have HB := n3_
          clear n0_ n1_ n2_ n3_
          refine start_ (n := 11) (S := fun w' => w'.cell? ⟨gb310, 0, none⟩ = some (.slice Ao76 t305.length co76) ∧ w'.cell? ⟨gb310, 1, none⟩ = some (.int .u8 t308)) (ds := []) #[false, false, false, false, false, false, false, false, false, false, false] Q0 rfl rfl ⟨(blk_cell BK310.out 0).trans rfl, (blk_cell BK310.out 1).trans rfl⟩ (fun hHeld => ?_); refine with_tabW vcode_shapeOf.tab27 vcode_shapeOf.bits27 (fun HT_ HW_ => ?_)
          generalize w79.drew = w80 at HO307 BK295 BK310 HB hHeld ⊢
          refine pure_ (i := 0) (N := some 51) (bv 11 1) rfl rfl Q152 (fun _ _ _ h => h) Q153 Q5 ?_
          refine pure_ (i := 3) (N := some 54) (bv 11 9) rfl rfl Q152 (fun _ _ _ h => h) Q153 Q5 ?_
          refine pure_ (i := 7) (N := some 58) (bv 11 137) rfl rfl Q152 (fun _ _ _ h => h) Q153 Q5 ?_
          refine pure_ (i := 8) (N := some 59) (bv 11 393) rfl rfl Q152 (fun _ _ _ h => h) Q153 Q5 ?_
          refine take_ (i := 1) (N := some 52) (bv 11 395) rfl rfl Q156 (fun _ _ _ h => h) Q164 hHeld Q5 ?_
          refine pure_ (i := 2) (N := some 53) (bv 11 399) rfl rfl Q152 (fun _ _ _ h => h) Q153 Q5 ?_
          refine take_ (i := 4) (N := some 55) (bv 11 415) rfl rfl Q156 (fun _ _ _ h => h) Q164 hHeld Q5 ?_
          refine pure_ (i := 5) (N := some 56) (bv 11 447) rfl rfl Q152 (fun _ _ _ h => h) Q153 Q5 ?_
          refine pure_ (i := 6) (N := some 57) (bv 11 511) rfl rfl Q152 (fun _ _ _ h => h) Q153 Q5 ?_
          refine one_ (i := 9) (N := none) #[true, true, true, true, true, true, true, true, true, true, false] rfl rfl (one_of HT_.out Q0) Q12 (fun K hK => ?_)
          have hs81 : w80.cell? ⟨gb295, 0, none⟩ = some (.int .i64 0) := (blk_cell BK295.out 0).trans rfl
          have hfs81 := blk_frozen BK295.out 0
          have hns81_1 := NB310_295.out
          have hms81_1 := NB295_310.out
          have hs82 : w80.cell? ⟨gb295, 1, none⟩ = some (.int .i64 0) := (blk_cell BK295.out 1).trans rfl
          have hfs82 := blk_frozen BK295.out 1
          have hns82_1 := NB310_295.out
          have hms82_1 := NB295_310.out
          have hs83 : w80.cell? ⟨gb295, 2, none⟩ = some (.bool false) := (blk_cell BK295.out 2).trans rfl
          have hfs83 := blk_frozen BK295.out 2
          have hns83_1 := NB310_295.out
          have hms83_1 := NB295_310.out
          have hs84 : w80.cell? ⟨gb295, 3, none⟩ = some (.bool false) := (blk_cell BK295.out 3).trans rfl
          have hfs84 := blk_frozen BK295.out 3
          have hns84_1 := NB310_295.out
          have hms84_1 := NB295_310.out
          refine skip_ (w1 := ?_) Q2 rfl ?_ ?_
          rotate_left
          ·go_simp
           rfl
          refine hK.out _ _ ⟨((cell_far (p := ⟨gb295, _, none⟩) NB310_295.out _).trans (((cell_far (p := ⟨gb295, _, none⟩) NB310_295.out _).trans (((cell_far (p := ⟨gb295, _, none⟩) NB310_295.out _).trans (((cell_far (p := ⟨gb295, _, none⟩) NB310_295.out _).trans (hHeld.1)))))))), ((cell_far (p := ⟨gb295, _, none⟩) NB310_295.out _).trans (((cell_far (p := ⟨gb295, _, none⟩) NB310_295.out _).trans (((cell_far (p := ⟨gb295, _, none⟩) NB310_295.out _).trans (((cell_far (p := ⟨gb295, _, none⟩) NB310_295.out _).trans (hHeld.2))))))))⟩ (fun hHeld => ?_)
          clear hK K
          refine pure_ (i := 10) (N := some 3) (bv 11 2047) rfl rfl Q152 (fun _ _ _ h => h) Q153 Q5 ?_
          refine done_ (done_of HT_.out Q0) ?_
          try go_wp2
          refine bodyPost_ret (results_ct rfl _ _ gb295 234 #[.int .i64 (t305.length : Int), .int .i64 0, .bool (t308 != 0), .bool false] (0, 0) _ rfl Q120 Tryz.underlying234 rfl Q0) rfl ?_
          exact ⟨Q6, Q76⟩
         replace c57 := Bool.eq_false_iff.mpr c57
         subst c57
         have H1 : (some (0, 0, false, false, false)) = some (r1, r2, r3, r4, r5) := by rw [if_neg (show ¬ (false = true) by decide)] at H; exact H
         clear H
         have H := H1
         clear H1
         simp only [Option.some.injEq, Prod.mk.injEq] at H
         obtain ⟨rfl, rfl, rfl, rfl, rfl⟩ := H
         go_wp2_with (first | ((with_reducible refine gate_callee (f := 78) rfl ?_); refine goesL_ (some 38) rfl rfl Tryz.func78 Q0 rfl #[.int .u8 a0] rfl Q9 ?_; (with_reducible refine (vcode_memory.calls a0 false _ ?side1 A29.out).mono ?_); (case side1 => exact GG.nil _); rintro e w85 ⟨rfl, hb⟩; refine ⟨_, rfl, ?_⟩; have n0_ := Aside0.mk (blk_below (g := gb295) (o := .cells #[.int .i64 0, .int .i64 0, .bool false, .bool false] 234 (0, 0)) Q23 hb); have n1_ := Aside0.mk (below_step Q16 hb); clear BK295; clear HB; have BK295 := n0_; have HB := n1_; clear n0_ n1_; (try clear hb); (try clear hb2); (try clear hk); (try clear hi)) | (go_at_call 72; (with_reducible refine (vcode_reckons.calls a0 false _ ?side1 A56.out).mono ?_); (case side1 => exact GG.nil _); rintro e w86 ⟨rfl, hb⟩; have n0_ := Aside0.mk (blk_below (g := gb295) (o := .cells #[.int .i64 0, .int .i64 0, .bool false, .bool false] 234 (0, 0)) Q23 hb); have n1_ := Aside0.mk (below_step Q16 hb); clear BK295; clear HB; have BK295 := n0_; have HB := n1_; clear n0_ n1_; (try clear hb); (try clear hb2); (try clear hk); (try clear hi); have hcz87_0 : w86.cell? ⟨gb295, 0, none⟩ = some (.int .i64 0) := (blk_cell BK295.out 0).trans rfl; have hcz87_1 : w86.cell? ⟨gb295, 1, none⟩ = some (.int .i64 0) := (blk_cell BK295.out 1).trans rfl; have hcz87_2 : w86.cell? ⟨gb295, 2, none⟩ = some (.bool false) := (blk_cell BK295.out 2).trans rfl; have hcz87_3 : w86.cell? ⟨gb295, 3, none⟩ = some (.bool false) := (blk_cell BK295.out 3).trans rfl; have hfz87_0 := blk_frozen BK295.out 0; have hfz87_1 := blk_frozen BK295.out 1; have hfz87_2 := blk_frozen BK295.out 2; have hfz87_3 := blk_frozen BK295.out 3))
         refine bodyPost_ret (results_ct rfl _ _ gb295 234 #[.int .i64 0, .int .i64 0, .bool false, .bool false] (0, 0) _ rfl Q113 Tryz.underlying234 rfl Q0) rfl ?_
         exact ⟨Q6, Q16⟩
def vcode_numbered.f (a0_0 : Int) (a0_1 : Int) (l0_2 : List Int) (a0_3 : Int) (a0_4 : Int) : Option (Bool) := if a0_0 = 66 then (some true) else (if a0_0 = 35 then (some (decide (a0_3 ≥ 0))) else (if a0_0 = 36 then (some (decide (a0_3 ≥ 0))) else (if a0_0 = 16 then (some (decide (a0_3 ≥ 0))) else (if a0_0 = 17 then (some (decide (a0_3 ≥ 0))) else (some (a0_3 == 0))))))
set_option maxHeartbeats 8000000 in
set_option maxRecDepth 100000 in
theorem vcode_numbered.calls (a0_0 : Int) (a0_1 : Int) (A0_2 : Option Addr) (c0_2 : Nat) (l0_2 : List Int) (a0_3 : Int) (a0_4 : Int) (r : Bool) (w : World) (hr0_2 : Kd.C (Kd.int .i64) w A0_2 l0_2.length l0_2) (hc0_2 : l0_2.length ≤ c0_2) (hG : GG [] w) (h : vcode_numbered.f a0_0 a0_1 l0_2 a0_3 a0_4 = some r) :
  Calls Tryz.prog 105 #[.agg #[.int .u8 a0_0, .int .i64 a0_1, .slice A0_2 l0_2.length c0_2, .int .i64 a0_3, .int .u32 a0_4]] w fun e w' => e = .returned (.bool r) ∧ Below w.heap.size w w' := by
 have hu84 := Tryz.underlying84
 have HR0_2 := Aside0.mk hr0_2
 have HC0_2 := Aside0.mk hc0_2
 clear hr0_2 hc0_2
 have HB := Aside0.mk (Below.refl w.heap.size w)
 have HG := Aside0.mk hG
 clear hG
 have H : (if a0_0 = 66 then (some true) else (if a0_0 = 35 then (some (decide (a0_3 ≥ 0))) else (if a0_0 = 36 then (some (decide (a0_3 ≥ 0))) else (if a0_0 = 16 then (some (decide (a0_3 ≥ 0))) else (if a0_0 = 17 then (some (decide (a0_3 ≥ 0))) else (some (a0_3 == 0))))))) = some r := h
 clear h
 by_cases c2 : a0_0 = 66
 ·rw [if_pos c2] at H
  have c2b0 : (a0_0 == 66) = true := beq_iff_eq.mpr c2
  have c2b1 : (a0_0 != 66) = false := bne_eq_false_iff_eq.mpr c2
  clear c2
  obtain rfl := Option.some.inj H
  go_enter Tryz.func105, Tryz.ntmps105
  go_wp2_with (first | ((with_reducible refine gate_dst (N := 1) rfl ?_); refine box_event ?hg (N := 1) ?hd (cs := #[.int .u8 a0_0, .int .i64 a0_1, .slice A0_2 l0_2.length c0_2, .int .i64 a0_3, .int .u32 a0_4]) (t := 84) ?hr ?_; (case hd => rfl); (case hg => rfl); (case hr => first | (go_simp; done) | (go_simp; rfl)); intro gb312 hg w3 hbox hb; have n0_ := Aside0.mk (below_step Q1 hb); have n1_ := Aside0.mk (hbox); have n2_ := Aside0.mk ((Q155 : w.heap.size ≤ gb312)); have n3_ := Aside0.mk ((Q155 : w.heap.size ≤ gb312)); clear HB; have HB := n0_; have BK312 := n1_; have GW312 := n2_; have GE312 := n3_; clear n0_ n1_ n2_ n3_; clear hb hbox hg; have hcz4_0 : w3.cell? ⟨gb312, 0, none⟩ = some (.int .u8 a0_0) := (blk_cell BK312.out 0).trans rfl; have hcz4_1 : w3.cell? ⟨gb312, 1, none⟩ = some (.int .i64 a0_1) := (blk_cell BK312.out 1).trans rfl; have hcz4_2 : w3.cell? ⟨gb312, 2, none⟩ = some (.slice A0_2 l0_2.length c0_2) := (blk_cell BK312.out 2).trans rfl; have hcz4_3 : w3.cell? ⟨gb312, 3, none⟩ = some (.int .i64 a0_3) := (blk_cell BK312.out 3).trans rfl; have hcz4_4 : w3.cell? ⟨gb312, 4, none⟩ = some (.int .u32 a0_4) := (blk_cell BK312.out 4).trans rfl; have hfz4_0 := blk_frozen BK312.out 0; have hfz4_1 := blk_frozen BK312.out 1; have hfz4_2 := blk_frozen BK312.out 2; have hfz4_3 := blk_frozen BK312.out 3; have hfz4_4 := blk_frozen BK312.out 4))
  go_ret
  exact ⟨Q6, Q60⟩
 rw [if_neg c2] at H
 have c2b0 : (a0_0 == 66) = false := beq_eq_false_iff_ne.mpr c2
 have c2b1 : (a0_0 != 66) = true := bne_iff_ne.mpr c2
 by_cases c5 : a0_0 = 35
 ·rw [if_pos c5] at H
  have c5b0 : (a0_0 == 35) = true := beq_iff_eq.mpr c5
  have c5b1 : (a0_0 != 35) = false := bne_eq_false_iff_eq.mpr c5
  clear c5
  obtain rfl := Option.some.inj H
  go_enter Tryz.func105, Tryz.ntmps105
  go_wp2_with (first | ((with_reducible refine gate_dst (N := 1) rfl ?_); refine box_event ?hg (N := 1) ?hd (cs := #[.int .u8 a0_0, .int .i64 a0_1, .slice A0_2 l0_2.length c0_2, .int .i64 a0_3, .int .u32 a0_4]) (t := 84) ?hr ?_; (case hd => rfl); (case hg => rfl); (case hr => first | (go_simp; done) | (go_simp; rfl)); intro gb312 hg w6 hbox hb; have n0_ := Aside0.mk (below_step Q1 hb); have n1_ := Aside0.mk (hbox); have n2_ := Aside0.mk ((Q155 : w.heap.size ≤ gb312)); have n3_ := Aside0.mk ((Q155 : w.heap.size ≤ gb312)); clear HB; have HB := n0_; have BK312 := n1_; have GW312 := n2_; have GE312 := n3_; clear n0_ n1_ n2_ n3_; clear hb hbox hg; have hcz7_0 : w6.cell? ⟨gb312, 0, none⟩ = some (.int .u8 a0_0) := (blk_cell BK312.out 0).trans rfl; have hcz7_1 : w6.cell? ⟨gb312, 1, none⟩ = some (.int .i64 a0_1) := (blk_cell BK312.out 1).trans rfl; have hcz7_2 : w6.cell? ⟨gb312, 2, none⟩ = some (.slice A0_2 l0_2.length c0_2) := (blk_cell BK312.out 2).trans rfl; have hcz7_3 : w6.cell? ⟨gb312, 3, none⟩ = some (.int .i64 a0_3) := (blk_cell BK312.out 3).trans rfl; have hcz7_4 : w6.cell? ⟨gb312, 4, none⟩ = some (.int .u32 a0_4) := (blk_cell BK312.out 4).trans rfl; have hfz7_0 := blk_frozen BK312.out 0; have hfz7_1 := blk_frozen BK312.out 1; have hfz7_2 := blk_frozen BK312.out 2; have hfz7_3 := blk_frozen BK312.out 3; have hfz7_4 := blk_frozen BK312.out 4))
  go_ret
  exact ⟨Q6, Q60⟩
 rw [if_neg c5] at H
 have c5b0 : (a0_0 == 35) = false := beq_eq_false_iff_ne.mpr c5
 have c5b1 : (a0_0 != 35) = true := bne_iff_ne.mpr c5
 by_cases c8 : a0_0 = 36
 ·rw [if_pos c8] at H
  have c8b0 : (a0_0 == 36) = true := beq_iff_eq.mpr c8
  have c8b1 : (a0_0 != 36) = false := bne_eq_false_iff_eq.mpr c8
  clear c8
  obtain rfl := Option.some.inj H
  go_enter Tryz.func105, Tryz.ntmps105
  go_wp2_with (first | ((with_reducible refine gate_dst (N := 1) rfl ?_); refine box_event ?hg (N := 1) ?hd (cs := #[.int .u8 a0_0, .int .i64 a0_1, .slice A0_2 l0_2.length c0_2, .int .i64 a0_3, .int .u32 a0_4]) (t := 84) ?hr ?_; (case hd => rfl); (case hg => rfl); (case hr => first | (go_simp; done) | (go_simp; rfl)); intro gb312 hg w9 hbox hb; have n0_ := Aside0.mk (below_step Q1 hb); have n1_ := Aside0.mk (hbox); have n2_ := Aside0.mk ((Q155 : w.heap.size ≤ gb312)); have n3_ := Aside0.mk ((Q155 : w.heap.size ≤ gb312)); clear HB; have HB := n0_; have BK312 := n1_; have GW312 := n2_; have GE312 := n3_; clear n0_ n1_ n2_ n3_; clear hb hbox hg; have hcz10_0 : w9.cell? ⟨gb312, 0, none⟩ = some (.int .u8 a0_0) := (blk_cell BK312.out 0).trans rfl; have hcz10_1 : w9.cell? ⟨gb312, 1, none⟩ = some (.int .i64 a0_1) := (blk_cell BK312.out 1).trans rfl; have hcz10_2 : w9.cell? ⟨gb312, 2, none⟩ = some (.slice A0_2 l0_2.length c0_2) := (blk_cell BK312.out 2).trans rfl; have hcz10_3 : w9.cell? ⟨gb312, 3, none⟩ = some (.int .i64 a0_3) := (blk_cell BK312.out 3).trans rfl; have hcz10_4 : w9.cell? ⟨gb312, 4, none⟩ = some (.int .u32 a0_4) := (blk_cell BK312.out 4).trans rfl; have hfz10_0 := blk_frozen BK312.out 0; have hfz10_1 := blk_frozen BK312.out 1; have hfz10_2 := blk_frozen BK312.out 2; have hfz10_3 := blk_frozen BK312.out 3; have hfz10_4 := blk_frozen BK312.out 4))
  go_ret
  exact ⟨Q6, Q60⟩
 rw [if_neg c8] at H
 have c8b0 : (a0_0 == 36) = false := beq_eq_false_iff_ne.mpr c8
 have c8b1 : (a0_0 != 36) = true := bne_iff_ne.mpr c8
 by_cases c11 : a0_0 = 16
 ·rw [if_pos c11] at H
  have c11b0 : (a0_0 == 16) = true := beq_iff_eq.mpr c11
  have c11b1 : (a0_0 != 16) = false := bne_eq_false_iff_eq.mpr c11
  clear c11
  obtain rfl := Option.some.inj H
  go_enter Tryz.func105, Tryz.ntmps105
  go_wp2_with (first | ((with_reducible refine gate_dst (N := 1) rfl ?_); refine box_event ?hg (N := 1) ?hd (cs := #[.int .u8 a0_0, .int .i64 a0_1, .slice A0_2 l0_2.length c0_2, .int .i64 a0_3, .int .u32 a0_4]) (t := 84) ?hr ?_; (case hd => rfl); (case hg => rfl); (case hr => first | (go_simp; done) | (go_simp; rfl)); intro gb312 hg w12 hbox hb; have n0_ := Aside0.mk (below_step Q1 hb); have n1_ := Aside0.mk (hbox); have n2_ := Aside0.mk ((Q155 : w.heap.size ≤ gb312)); have n3_ := Aside0.mk ((Q155 : w.heap.size ≤ gb312)); clear HB; have HB := n0_; have BK312 := n1_; have GW312 := n2_; have GE312 := n3_; clear n0_ n1_ n2_ n3_; clear hb hbox hg; have hcz13_0 : w12.cell? ⟨gb312, 0, none⟩ = some (.int .u8 a0_0) := (blk_cell BK312.out 0).trans rfl; have hcz13_1 : w12.cell? ⟨gb312, 1, none⟩ = some (.int .i64 a0_1) := (blk_cell BK312.out 1).trans rfl; have hcz13_2 : w12.cell? ⟨gb312, 2, none⟩ = some (.slice A0_2 l0_2.length c0_2) := (blk_cell BK312.out 2).trans rfl; have hcz13_3 : w12.cell? ⟨gb312, 3, none⟩ = some (.int .i64 a0_3) := (blk_cell BK312.out 3).trans rfl; have hcz13_4 : w12.cell? ⟨gb312, 4, none⟩ = some (.int .u32 a0_4) := (blk_cell BK312.out 4).trans rfl; have hfz13_0 := blk_frozen BK312.out 0; have hfz13_1 := blk_frozen BK312.out 1; have hfz13_2 := blk_frozen BK312.out 2; have hfz13_3 := blk_frozen BK312.out 3; have hfz13_4 := blk_frozen BK312.out 4))
  go_ret
  exact ⟨Q6, Q60⟩
 rw [if_neg c11] at H
 have c11b0 : (a0_0 == 16) = false := beq_eq_false_iff_ne.mpr c11
 have c11b1 : (a0_0 != 16) = true := bne_iff_ne.mpr c11
 by_cases c14 : a0_0 = 17
 ·rw [if_pos c14] at H
  have c14b0 : (a0_0 == 17) = true := beq_iff_eq.mpr c14
  have c14b1 : (a0_0 != 17) = false := bne_eq_false_iff_eq.mpr c14
  clear c14
  obtain rfl := Option.some.inj H
  go_enter Tryz.func105, Tryz.ntmps105
  go_wp2_with (first | ((with_reducible refine gate_dst (N := 1) rfl ?_); refine box_event ?hg (N := 1) ?hd (cs := #[.int .u8 a0_0, .int .i64 a0_1, .slice A0_2 l0_2.length c0_2, .int .i64 a0_3, .int .u32 a0_4]) (t := 84) ?hr ?_; (case hd => rfl); (case hg => rfl); (case hr => first | (go_simp; done) | (go_simp; rfl)); intro gb312 hg w15 hbox hb; have n0_ := Aside0.mk (below_step Q1 hb); have n1_ := Aside0.mk (hbox); have n2_ := Aside0.mk ((Q155 : w.heap.size ≤ gb312)); have n3_ := Aside0.mk ((Q155 : w.heap.size ≤ gb312)); clear HB; have HB := n0_; have BK312 := n1_; have GW312 := n2_; have GE312 := n3_; clear n0_ n1_ n2_ n3_; clear hb hbox hg; have hcz16_0 : w15.cell? ⟨gb312, 0, none⟩ = some (.int .u8 a0_0) := (blk_cell BK312.out 0).trans rfl; have hcz16_1 : w15.cell? ⟨gb312, 1, none⟩ = some (.int .i64 a0_1) := (blk_cell BK312.out 1).trans rfl; have hcz16_2 : w15.cell? ⟨gb312, 2, none⟩ = some (.slice A0_2 l0_2.length c0_2) := (blk_cell BK312.out 2).trans rfl; have hcz16_3 : w15.cell? ⟨gb312, 3, none⟩ = some (.int .i64 a0_3) := (blk_cell BK312.out 3).trans rfl; have hcz16_4 : w15.cell? ⟨gb312, 4, none⟩ = some (.int .u32 a0_4) := (blk_cell BK312.out 4).trans rfl; have hfz16_0 := blk_frozen BK312.out 0; have hfz16_1 := blk_frozen BK312.out 1; have hfz16_2 := blk_frozen BK312.out 2; have hfz16_3 := blk_frozen BK312.out 3; have hfz16_4 := blk_frozen BK312.out 4))
  go_ret
  exact ⟨Q6, Q60⟩
 rw [if_neg c14] at H
 have c14b0 : (a0_0 == 17) = false := beq_eq_false_iff_ne.mpr c14
 have c14b1 : (a0_0 != 17) = true := bne_iff_ne.mpr c14
 obtain rfl := Option.some.inj H
 go_enter Tryz.func105, Tryz.ntmps105
 go_wp2_with (first | ((with_reducible refine gate_dst (N := 1) rfl ?_); refine box_event ?hg (N := 1) ?hd (cs := #[.int .u8 a0_0, .int .i64 a0_1, .slice A0_2 l0_2.length c0_2, .int .i64 a0_3, .int .u32 a0_4]) (t := 84) ?hr ?_; (case hd => rfl); (case hg => rfl); (case hr => first | (go_simp; done) | (go_simp; rfl)); intro gb312 hg w17 hbox hb; have n0_ := Aside0.mk (below_step Q1 hb); have n1_ := Aside0.mk (hbox); have n2_ := Aside0.mk ((Q155 : w.heap.size ≤ gb312)); have n3_ := Aside0.mk ((Q155 : w.heap.size ≤ gb312)); clear HB; have HB := n0_; have BK312 := n1_; have GW312 := n2_; have GE312 := n3_; clear n0_ n1_ n2_ n3_; clear hb hbox hg; have hcz18_0 : w17.cell? ⟨gb312, 0, none⟩ = some (.int .u8 a0_0) := (blk_cell BK312.out 0).trans rfl; have hcz18_1 : w17.cell? ⟨gb312, 1, none⟩ = some (.int .i64 a0_1) := (blk_cell BK312.out 1).trans rfl; have hcz18_2 : w17.cell? ⟨gb312, 2, none⟩ = some (.slice A0_2 l0_2.length c0_2) := (blk_cell BK312.out 2).trans rfl; have hcz18_3 : w17.cell? ⟨gb312, 3, none⟩ = some (.int .i64 a0_3) := (blk_cell BK312.out 3).trans rfl; have hcz18_4 : w17.cell? ⟨gb312, 4, none⟩ = some (.int .u32 a0_4) := (blk_cell BK312.out 4).trans rfl; have hfz18_0 := blk_frozen BK312.out 0; have hfz18_1 := blk_frozen BK312.out 1; have hfz18_2 := blk_frozen BK312.out 2; have hfz18_3 := blk_frozen BK312.out 3; have hfz18_4 := blk_frozen BK312.out 4))
 go_ret
 exact ⟨Q6, Q60⟩
def mayP1 (n : Int) (src : List Int) (takes least : Int) (is : Bool) : Bool := !is || (src.any fun x => awayB x n) || decide ((src.length : Int) < least) || (decide (0 ≤ takes) && ((src.length : Int) != takes))
def mayP2 (n : Int) (dst : Int) (gives free : Bool) : Bool := ((dst != -1) && awayB dst n) || (!free && (gives != (dst != -1)))
def mayP3 (off : Int) (mem nb : Bool) : Bool := ((off != 0) && !mem) || !nb
def mayB (n : Int) (res : Bool) (op dst : Int) (src : List Int) (off : Int) (takes least : Int) (gives free is mem nb : Bool) : Bool :=
  if mayP1 n src takes least is = true then false else if mayP2 n dst gives free = true then false else if mayP3 off mem nb = true then false else
  if op = 15 then (((src.length : Int) == 1) == res) && decide ((src.length : Int) ≤ 1) else true
theorem cells4 {w : World} {g : Nat} {t : TypeId} {a b c d : Value} (h : w.heap[g]? = some (.cells #[a, b, c, d] t (0, 0))) : w.cell? ⟨g, 0, none⟩ = some a ∧ w.cell? ⟨g, 1, none⟩ = some b ∧ w.cell? ⟨g, 2, none⟩ = some c ∧ w.cell? ⟨g, 3, none⟩ = some d := ⟨blk_cell h 0, blk_cell h 1, blk_cell h 2, blk_cell h 3⟩
theorem cells5 {w : World} {g : Nat} {t : TypeId} {a b c d e : Value} (h : w.heap[g]? = some (.cells #[a, b, c, d, e] t (0, 0))) : w.cell? ⟨g, 0, none⟩ = some a ∧ w.cell? ⟨g, 1, none⟩ = some b ∧ w.cell? ⟨g, 2, none⟩ = some c ∧ w.cell? ⟨g, 3, none⟩ = some d ∧ w.cell? ⟨g, 4, none⟩ = some e := ⟨blk_cell h 0, blk_cell h 1, blk_cell h 2, blk_cell h 3, blk_cell h 4⟩
theorem heap_alloc_size2 (w : World) (C : Obj) : (w.alloc C).heap.size = w.heap.size + 1 := by
  show (w.heap.push C).size = _
  exact Array.size_push _
theorem two_blks {w w1 : World} {C X : Obj} (hb : Below ((w.alloc C).alloc X).heap.size ((w.alloc C).alloc X) w1) : w1.heap[w.heap.size]? = some C ∧ w1.heap[w.heap.size + 1]? = some X ∧ Below w.heap.size w w1 := by
  have h1 : (w.alloc C).heap.size = w.heap.size + 1 := heap_alloc_size2 w C
  refine ⟨blk_below (blk_alloc (blk_new w C) X) hb, blk_below (by rw [← h1]; exact blk_new (w.alloc C) X) hb, ?_⟩
  exact below_then (below_alloc (below_alloc (Below.refl w.heap.size w) C) X) (below_size (below_alloc (below_alloc (Below.refl w.heap.size w) C) X)) hb
set_option maxHeartbeats 8000000 in
set_option maxRecDepth 100000 in
theorem may_calls (k : Nat) (params n : Int) (res : Bool) (Ab : Value) (op dst : Int) (As : Option Addr) (cs : Nat) (src : List Int) (nn off : Int)
    (takes least : Int) (gives free is mem nb : Bool) (w : World)
    (hr : Kd.C (Kd.int .i64) w As src.length src) (hc : src.length ≤ cs) (hG : GG [0] w)
    (hs : vcode_shapeOf.f k op = some (takes, least, gives, free, is)) (hm : vcode_memory.f op = some mem) (hn : vcode_numbered.f op dst src nn off = some nb) :
    Calls Tryz.prog 88 #[.agg #[.int .i64 params, .int .i64 n, .bool res, Ab], .agg #[.int .u8 op, .int .i64 dst, .slice As src.length cs, .int .i64 nn, .int .u32 off]] w fun e w' => e = .returned (.bool (mayB n res op dst src off takes least gives free is mem nb)) ∧ Below w.heap.size w w' := by
  have HS := Lib.hid (fun w1 h1 => vcode_shapeOf.calls k op takes least gives free is w1 h1 hs)
  have HM := Lib.hid (fun w1 => vcode_memory.calls op mem w1 (GG.nil w1) hm)
  have HN := Lib.hid (fun w1 h1 => vcode_numbered.calls op dst As cs src nn off nb w1 h1 hc (GG.nil w1) hn)
  have HR := Lib.hid hr
  have HG := Lib.hid hG
  clear hs hm hn hc hr hG
  go_enter Tryz.func88, Tryz.ntmps88
  go_upto_region 3 with (first | (go_at_call 103; refine (HS.out _ (GG.below (by repeat (first | apply below_alloc | exact Below.refl _ _)) HG.out)).mono ?_; rintro e w1 ⟨rfl, hb⟩))
  (try simp only [Act.put, List.setIfInBounds_toArray, List.set_cons_zero, List.set_cons_succ])
  obtain ⟨bC, bX, bB⟩ := two_blks hb
  clear hb
  have bS := blk_new w1 (.cells #[.int .i64 takes, .int .i64 least, .bool gives, .bool free] 234 (0, 0))
  have bC := blk_alloc bC (.cells #[.int .i64 takes, .int .i64 least, .bool gives, .bool free] 234 (0, 0))
  have bX := blk_alloc bX (.cells #[.int .i64 takes, .int .i64 least, .bool gives, .bool free] 234 (0, 0))
  have bB := below_alloc bB (.cells #[.int .i64 takes, .int .i64 least, .bool gives, .bool free] 234 (0, 0))
  revert bC bX bS bB
  generalize w1.alloc (.cells #[.int .i64 takes, .int .i64 least, .bool gives, .bool free] 234 (0, 0)) = w2
  generalize w1.heap.size = gS
  intro bS bC bX bB
  have BC := Lib.hid bC
  have BX := Lib.hid bX
  have BS := Lib.hid bS
  have BB := Lib.hid bB
  clear bC bX bS bB
  go_cut [15] (fun v wc => v = .bool (mayP1 n src takes least is) ∧ Hid (wc.heap[w.heap.size]? = some (.cells #[.int .i64 params, .int .i64 n, .bool res, Ab] 35 (0, 0))) ∧ Hid (wc.heap[w.heap.size + 1]? = some (.cells #[.int .u8 op, .int .i64 dst, .slice As src.length cs, .int .i64 nn, .int .u32 off] 84 (0, 0))) ∧ Hid (wc.heap[gS]? = some (.cells #[.int .i64 takes, .int .i64 least, .bool gives, .bool free] 234 (0, 0))) ∧ Hid (Below w.heap.size w wc))
  case first =>
    obtain ⟨zc0, zc1, zc2, zc3⟩ := cells4 BC.out
    obtain ⟨zx0, zx1, zx2, zx3, zx4⟩ := cells5 BX.out
    obtain ⟨zs0, zs1, zs2, zs3⟩ := cells4 BS.out
    cases is with
    | false =>
      go_wp2
      go_meet
      case rel => exact ⟨rfl, BC, BX, BS, BB⟩
    | true =>
      by_cases h2 : (src.any fun x => awayB x n) = true
      · have H2 := Lib.hid h2
        clear h2
        go_wp2_with (first | (go_at_call 89; refine (awayAny_May src As cs n w.heap.size _ (Kd.C_below HR.out BB.out) ((blk_cell BC.out 1).trans rfl)).mono ?_; rintro e w3 ⟨rfl, rfl⟩; rw [H2.out]))
        go_meet
        case rel => exact ⟨by rw [mayP1, H2.out]; rfl, BC, BX, BS, BB⟩
      · rw [Bool.not_eq_true] at h2
        have H2 := Lib.hid h2
        clear h2
        by_cases h3 : decide ((src.length : Int) < least) = true
        · go_wp2_with (first | (go_at_call 89; refine (awayAny_May src As cs n w.heap.size _ (Kd.C_below HR.out BB.out) ((blk_cell BC.out 1).trans rfl)).mono ?_; rintro e w3 ⟨rfl, rfl⟩; rw [H2.out]))
          go_meet
          case rel => exact ⟨by rw [mayP1, H2.out, h3]; rfl, BC, BX, BS, BB⟩
        · rw [Bool.not_eq_true] at h3
          by_cases h4 : decide (0 ≤ takes) = true
          · go_wp2_with (first | (go_at_call 89; refine (awayAny_May src As cs n w.heap.size _ (Kd.C_below HR.out BB.out) ((blk_cell BC.out 1).trans rfl)).mono ?_; rintro e w3 ⟨rfl, rfl⟩; rw [H2.out]))
            go_meet
            case rel => exact ⟨by rw [mayP1, H2.out, h3, h4]; rfl, BC, BX, BS, BB⟩
          · rw [Bool.not_eq_true] at h4
            go_wp2_with (first | (go_at_call 89; refine (awayAny_May src As cs n w.heap.size _ (Kd.C_below HR.out BB.out) ((blk_cell BC.out 1).trans rfl)).mono ?_; rintro e w3 ⟨rfl, rfl⟩; rw [H2.out]))
            go_meet
            case rel => exact ⟨by rw [mayP1, H2.out, h3, h4]; rfl, BC, BX, BS, BB⟩
  case rest =>
    clear BC BX BS BB
    obtain ⟨rfl, BC, BX, BS, BB⟩ := hcut
    obtain ⟨zc0, zc1, zc2, zc3⟩ := cells4 BC.out
    obtain ⟨zx0, zx1, zx2, zx3, zx4⟩ := cells5 BX.out
    obtain ⟨zs0, zs1, zs2, zs3⟩ := cells4 BS.out
    cases hP1 : mayP1 n src takes least is with
    | true =>
      go_wp2
      go_ret
      exact ⟨by rw [mayB, hP1]; rfl, BB.out⟩
    | false =>
      clear zc0 zc1 zc2 zc3 zx0 zx1 zx2 zx3 zx4 zs0 zs1 zs2 zs3
      go_upto_region 5 with (first | fail)
      go_cut [45] (fun v wc => v = .bool (mayP2 n dst gives free) ∧ Hid (wc.heap[w.heap.size]? = some (.cells #[.int .i64 params, .int .i64 n, .bool res, Ab] 35 (0, 0))) ∧ Hid (wc.heap[w.heap.size + 1]? = some (.cells #[.int .u8 op, .int .i64 dst, .slice As src.length cs, .int .i64 nn, .int .u32 off] 84 (0, 0))) ∧ Hid (wc.heap[gS]? = some (.cells #[.int .i64 takes, .int .i64 least, .bool gives, .bool free] 234 (0, 0))) ∧ Hid (Below w.heap.size w wc))
      case first =>
        obtain ⟨zc0, zc1, zc2, zc3⟩ := cells4 BC.out
        obtain ⟨zx0, zx1, zx2, zx3, zx4⟩ := cells5 BX.out
        obtain ⟨zs0, zs1, zs2, zs3⟩ := cells4 BS.out
        by_cases h6 : (dst != -1) = false
        · skip
          cases free with
          | true =>
            go_wp2
            go_meet
            case rel => exact ⟨by rw [mayP2, h6]; rfl, BC, BX, BS, BB⟩
          | false =>
            cases gives with
            | true =>
              go_wp2
              go_meet
              case rel => exact ⟨by rw [mayP2, h6]; rfl, BC, BX, BS, BB⟩
            | false =>
              go_wp2
              go_meet
              case rel => exact ⟨by rw [mayP2, h6]; rfl, BC, BX, BS, BB⟩
        · rw [Bool.not_eq_false] at h6
          by_cases h7 : awayB dst n = true
          · have H7 := Lib.hid h7
            clear h7
            go_wp2_with (first | (go_at_call 104; refine (away_May dst n w.heap.size _ ((blk_cell BC.out 1).trans rfl)).mono ?_; rintro e w3 ⟨rfl, rfl⟩; rw [H7.out]))
            go_meet
            case rel => exact ⟨by rw [mayP2, h6, H7.out]; rfl, BC, BX, BS, BB⟩
          · rw [Bool.not_eq_true] at h7
            have H7 := Lib.hid h7
            clear h7
            cases free with
            | true =>
              go_wp2_with (first | (go_at_call 104; refine (away_May dst n w.heap.size _ ((blk_cell BC.out 1).trans rfl)).mono ?_; rintro e w3 ⟨rfl, rfl⟩; rw [H7.out]))
              go_meet
              case rel => exact ⟨by rw [mayP2, h6, H7.out]; rfl, BC, BX, BS, BB⟩
            | false =>
              cases gives with
              | true =>
                go_wp2_with (first | (go_at_call 104; refine (away_May dst n w.heap.size _ ((blk_cell BC.out 1).trans rfl)).mono ?_; rintro e w3 ⟨rfl, rfl⟩; rw [H7.out]))
                go_meet
                case rel => exact ⟨by rw [mayP2, h6, H7.out]; rfl, BC, BX, BS, BB⟩
              | false =>
                go_wp2_with (first | (go_at_call 104; refine (away_May dst n w.heap.size _ ((blk_cell BC.out 1).trans rfl)).mono ?_; rintro e w3 ⟨rfl, rfl⟩; rw [H7.out]))
                go_meet
                case rel => exact ⟨by rw [mayP2, h6, H7.out]; rfl, BC, BX, BS, BB⟩
      case rest =>
        clear BC BX BS BB
        obtain ⟨rfl, BC, BX, BS, BB⟩ := hcut
        obtain ⟨zc0, zc1, zc2, zc3⟩ := cells4 BC.out
        obtain ⟨zx0, zx1, zx2, zx3, zx4⟩ := cells5 BX.out
        obtain ⟨zs0, zs1, zs2, zs3⟩ := cells4 BS.out
        cases hP2 : mayP2 n dst gives free with
        | true =>
          go_wp2
          go_ret
          exact ⟨by rw [mayB, hP1, hP2]; rfl, BB.out⟩
        | false =>
          clear zc0 zc1 zc2 zc3 zx0 zx1 zx2 zx3 zx4 zs0 zs1 zs2 zs3
          go_upto_region 7 with (first | fail)
          go_cut [68] (fun v wc => v = .bool (mayP3 off mem nb) ∧ Hid (wc.heap[w.heap.size]? = some (.cells #[.int .i64 params, .int .i64 n, .bool res, Ab] 35 (0, 0))) ∧ Hid (wc.heap[w.heap.size + 1]? = some (.cells #[.int .u8 op, .int .i64 dst, .slice As src.length cs, .int .i64 nn, .int .u32 off] 84 (0, 0))) ∧ Hid (wc.heap[gS]? = some (.cells #[.int .i64 takes, .int .i64 least, .bool gives, .bool free] 234 (0, 0))) ∧ Hid (Below w.heap.size w wc))
          case first =>
            obtain ⟨zc0, zc1, zc2, zc3⟩ := cells4 BC.out
            obtain ⟨zx0, zx1, zx2, zx3, zx4⟩ := cells5 BX.out
            obtain ⟨zs0, zs1, zs2, zs3⟩ := cells4 BS.out
            by_cases h10 : (off != 0) = false
            · cases nb with
              | true =>
                go_wp2_with (first | (go_at_call 105; refine (HN.out _ (Kd.C_below HR.out BB.out)).mono ?_; rintro e w4 ⟨rfl, hb⟩; have nC := Lib.hid (blk_below BC.out hb); have nX := Lib.hid (blk_below BX.out hb); have nS := Lib.hid (blk_below BS.out hb); have nB := Lib.hid (below_then BB.out (below_size BB.out) hb); clear BC BX BS BB hb; have BC := nC; have BX := nX; have BS := nS; have BB := nB; clear nC nX nS nB; obtain ⟨zc0, zc1, zc2, zc3⟩ := cells4 BC.out; obtain ⟨zx0, zx1, zx2, zx3, zx4⟩ := cells5 BX.out; obtain ⟨zs0, zs1, zs2, zs3⟩ := cells4 BS.out))
                go_meet
                case rel => exact ⟨by rw [mayP3, h10]; rfl, BC, BX, BS, BB⟩
              | false =>
                go_wp2_with (first | (go_at_call 105; refine (HN.out _ (Kd.C_below HR.out BB.out)).mono ?_; rintro e w4 ⟨rfl, hb⟩; have nC := Lib.hid (blk_below BC.out hb); have nX := Lib.hid (blk_below BX.out hb); have nS := Lib.hid (blk_below BS.out hb); have nB := Lib.hid (below_then BB.out (below_size BB.out) hb); clear BC BX BS BB hb; have BC := nC; have BX := nX; have BS := nS; have BB := nB; clear nC nX nS nB; obtain ⟨zc0, zc1, zc2, zc3⟩ := cells4 BC.out; obtain ⟨zx0, zx1, zx2, zx3, zx4⟩ := cells5 BX.out; obtain ⟨zs0, zs1, zs2, zs3⟩ := cells4 BS.out))
                go_meet
                case rel => exact ⟨by rw [mayP3, h10]; rfl, BC, BX, BS, BB⟩
            · rw [Bool.not_eq_false] at h10
              cases mem with
              | false =>
                go_wp2_with (first | (go_at_call 78; refine (HM.out _).mono ?_; rintro e w3 ⟨rfl, hb⟩; have nC := Lib.hid (blk_below BC.out hb); have nX := Lib.hid (blk_below BX.out hb); have nS := Lib.hid (blk_below BS.out hb); have nB := Lib.hid (below_then BB.out (below_size BB.out) hb); clear BC BX BS BB hb; have BC := nC; have BX := nX; have BS := nS; have BB := nB; clear nC nX nS nB; obtain ⟨zc0, zc1, zc2, zc3⟩ := cells4 BC.out; obtain ⟨zx0, zx1, zx2, zx3, zx4⟩ := cells5 BX.out; obtain ⟨zs0, zs1, zs2, zs3⟩ := cells4 BS.out))
                go_meet
                case rel => exact ⟨by rw [mayP3, h10]; rfl, BC, BX, BS, BB⟩
              | true =>
                cases nb with
                | true =>
                  go_wp2_with (first | first | (go_at_call 78; refine (HM.out _).mono ?_; rintro e w3 ⟨rfl, hb⟩; have nC := Lib.hid (blk_below BC.out hb); have nX := Lib.hid (blk_below BX.out hb); have nS := Lib.hid (blk_below BS.out hb); have nB := Lib.hid (below_then BB.out (below_size BB.out) hb); clear BC BX BS BB hb; have BC := nC; have BX := nX; have BS := nS; have BB := nB; clear nC nX nS nB; obtain ⟨zc0, zc1, zc2, zc3⟩ := cells4 BC.out; obtain ⟨zx0, zx1, zx2, zx3, zx4⟩ := cells5 BX.out; obtain ⟨zs0, zs1, zs2, zs3⟩ := cells4 BS.out) | (go_at_call 105; refine (HN.out _ (Kd.C_below HR.out BB.out)).mono ?_; rintro e w4 ⟨rfl, hb⟩; have nC := Lib.hid (blk_below BC.out hb); have nX := Lib.hid (blk_below BX.out hb); have nS := Lib.hid (blk_below BS.out hb); have nB := Lib.hid (below_then BB.out (below_size BB.out) hb); clear BC BX BS BB hb; have BC := nC; have BX := nX; have BS := nS; have BB := nB; clear nC nX nS nB; obtain ⟨zc0, zc1, zc2, zc3⟩ := cells4 BC.out; obtain ⟨zx0, zx1, zx2, zx3, zx4⟩ := cells5 BX.out; obtain ⟨zs0, zs1, zs2, zs3⟩ := cells4 BS.out))
                  go_meet
                  case rel => exact ⟨by rw [mayP3, h10]; rfl, BC, BX, BS, BB⟩
                | false =>
                  go_wp2_with (first | first | (go_at_call 78; refine (HM.out _).mono ?_; rintro e w3 ⟨rfl, hb⟩; have nC := Lib.hid (blk_below BC.out hb); have nX := Lib.hid (blk_below BX.out hb); have nS := Lib.hid (blk_below BS.out hb); have nB := Lib.hid (below_then BB.out (below_size BB.out) hb); clear BC BX BS BB hb; have BC := nC; have BX := nX; have BS := nS; have BB := nB; clear nC nX nS nB; obtain ⟨zc0, zc1, zc2, zc3⟩ := cells4 BC.out; obtain ⟨zx0, zx1, zx2, zx3, zx4⟩ := cells5 BX.out; obtain ⟨zs0, zs1, zs2, zs3⟩ := cells4 BS.out) | (go_at_call 105; refine (HN.out _ (Kd.C_below HR.out BB.out)).mono ?_; rintro e w4 ⟨rfl, hb⟩; have nC := Lib.hid (blk_below BC.out hb); have nX := Lib.hid (blk_below BX.out hb); have nS := Lib.hid (blk_below BS.out hb); have nB := Lib.hid (below_then BB.out (below_size BB.out) hb); clear BC BX BS BB hb; have BC := nC; have BX := nX; have BS := nS; have BB := nB; clear nC nX nS nB; obtain ⟨zc0, zc1, zc2, zc3⟩ := cells4 BC.out; obtain ⟨zx0, zx1, zx2, zx3, zx4⟩ := cells5 BX.out; obtain ⟨zs0, zs1, zs2, zs3⟩ := cells4 BS.out))
                  go_meet
                  case rel => exact ⟨by rw [mayP3, h10]; rfl, BC, BX, BS, BB⟩
          case rest =>
            clear BC BX BS BB
            obtain ⟨rfl, BC, BX, BS, BB⟩ := hcut
            obtain ⟨zc0, zc1, zc2, zc3⟩ := cells4 BC.out
            obtain ⟨zx0, zx1, zx2, zx3, zx4⟩ := cells5 BX.out
            obtain ⟨zs0, zs1, zs2, zs3⟩ := cells4 BS.out
            cases hP3 : mayP3 off mem nb with
            | true =>
              go_wp2
              go_ret
              exact ⟨by rw [mayB, hP1, hP2, hP3]; rfl, BB.out⟩
            | false =>
              by_cases h13 : (op == 15) = true
              · have e13 : op = 15 := by simpa using h13
                by_cases h14 : (((src.length : Int) == 1) == res) = true
                · skip
                  go_wp2
                  go_ret
                  exact ⟨by rw [mayB, hP1, hP2, hP3, if_pos e13, h14]; rfl, BB.out⟩
                · rw [Bool.not_eq_true] at h14
                  go_wp2
                  go_ret
                  exact ⟨by rw [mayB, hP1, hP2, hP3, if_pos e13, h14]; rfl, BB.out⟩
              · have e13 : ¬ op = 15 := by simpa using h13
                rw [Bool.not_eq_true] at h13
                go_wp2
                go_ret
                exact ⟨by rw [mayB, hP1, hP2, hP3, if_neg e13]; rfl, BB.out⟩
theorem away_Whole (x : Int) (Ab : Option Addr) (n cb : Nat) (B : Nat) (w : World) (hc : w.cell? ⟨B, 3, none⟩ = some (.slice Ab n cb)) :
    Calls Tryz.prog 90 #[.int .i64 x, .pointer (some ⟨B, 0, none⟩)] w fun e w' => e = .returned (.bool (awayB x n)) ∧ w = w' := by
  by_cases h0 : x < 0
  · have hb : awayB x n = true := by simp [awayB, h0]
    rw [hb]
    go_enter Tryz.func90, Tryz.ntmps90
    go_wp2
    go_ret
    exact ⟨rfl, rfl⟩
  · by_cases h1 : n ≤ x
    · have hb : awayB x n = true := by simp [awayB, h1]
      rw [hb]
      go_enter Tryz.func90, Tryz.ntmps90
      go_wp2
      go_ret
      exact ⟨rfl, rfl⟩
    · have hb : awayB x n = false := by simp [awayB, h0, h1]
      rw [hb]
      go_enter Tryz.func90, Tryz.ntmps90
      go_wp2
      go_ret
      exact ⟨rfl, rfl⟩
set_option maxHeartbeats 1000000 in
set_option maxRecDepth 100000 in
theorem awayIdx_Whole (src : List Int) (A : Option Addr) (c : Nat) (Ab : Option Addr) (n cb : Nat) (B : Nat) (w : World) (hr : Kd.C (Kd.int .i64) w A src.length src) (hc : w.cell? ⟨B, 3, none⟩ = some (.slice Ab n cb)) :
    Calls Tryz.prog 106 #[.slice A src.length c, .func (.func 90) #[] #[.pointer (some ⟨B, 0, none⟩)]] w fun e w' => e = .returned (.int .i64 (awayIdx src n 0)) ∧ w = w' := by
  have hm := hr.2.1
  have Hr := Lib.hid hr
  clear hr
  go_enter Tryz.func106, Tryz.ntmps106
  go_wp2
  go_loop [8, 5] (fun i _ => ∃ k : Nat, k ≤ src.length ∧ i = .int .i64 k ∧ awayIdx (src.drop k) n (k : Int) = awayIdx src n 0) (fun i _ => src.length - (intOf i).toNat)
  case atStart => exact ⟨0, Nat.zero_le _, rfl, rfl⟩
  case round =>
    obtain ⟨k, hk, rfl, he⟩ := hrel
    have He := Lib.hid he
    clear he
    by_cases hlt : k < src.length
    · obtain ⟨ad, x, rfl, hx, hcell⟩ := away_cell Hr.out k hlt
      have hcl := away_Whole x Ab n cb B w hc
      have Hcl := Lib.hid hcl
      clear hcl
      have hstep := awayIdx_step src n k hlt
      rw [← hx] at hstep
      have Hst := Lib.hid hstep
      clear hstep hx
      by_cases ha : awayB x n = true
      · have Ha := Lib.hid ha
        clear ha
        go_wp2_with (go_at_call 90; refine (Hcl.out).mono ?_; rintro e w' ⟨rfl, rfl⟩; rw [Ha.out])
        go_ret
        exact ⟨by rw [← He.out, Hst.out, if_pos Ha.out]; rfl, rfl⟩
      · rw [Bool.not_eq_true] at ha
        have Ha := Lib.hid ha
        clear ha
        go_wp2_with (go_at_call 90; refine (Hcl.out).mono ?_; rintro e w' ⟨rfl, rfl⟩; rw [Ha.out])
        go_round
        case rel => exact ⟨k + 1, by omega, by go_num, by rw [← He.out, Hst.out, if_neg (by rw [Ha.out]; decide)]⟩
        case measure => simp [intOf]; omega
    · have hek : k = src.length := by omega
      go_wp2
      go_ret
      refine ⟨?_, rfl⟩
      rw [← He.out, List.drop_eq_nil_of_le (by omega)]
      rfl
theorem awayAny_Whole (src : List Int) (A : Option Addr) (c : Nat) (Ab : Option Addr) (n cb : Nat) (B : Nat) (w : World) (hr : Kd.C (Kd.int .i64) w A src.length src) (hc : w.cell? ⟨B, 3, none⟩ = some (.slice Ab n cb)) :
    Calls Tryz.prog 89 #[.slice A src.length c, .func (.func 90) #[] #[.pointer (some ⟨B, 0, none⟩)]] w fun e w' => e = .returned (.bool (src.any fun x => awayB x n)) ∧ w = w' := by
  have hi := awayIdx_iff src n 0 (by omega)
  have hcl := awayIdx_Whole src A c Ab n cb B w hr hc
  clear hr hc
  rw [← hi]
  clear hi
  have Hcl := Lib.hid hcl
  clear hcl
  go_enter Tryz.func89, Tryz.ntmps89
  go_wp2_with (go_at_call 106; refine (Hcl.out).mono ?_; rintro e w' ⟨rfl, rfl⟩)
  go_ret
  exact ⟨rfl, rfl⟩
def mayO (k : Nat) (n : Int) (res : Bool) (x : S84) : Option Bool :=
  (vcode_shapeOf.f k x.f0).bind fun s => (vcode_memory.f x.f0).bind fun m => (vcode_numbered.f x.f0 x.f1 x.f2 x.f3 x.f4).bind fun nb =>
    some (mayB n res x.f0 x.f1 x.f2 x.f4 s.1 s.2.1 s.2.2.1 s.2.2.2.1 s.2.2.2.2 m nb)
def wholeL (k : Nat) (last n : Int) (res : Bool) : List S84 → Int → Option Bool
  | [], _ => some true
  | x :: r, i => (mayO k n res x).bind fun m => (vcode_Ends.f x.f0).bind fun e => if (!m || (decide (i < last) && e)) = true then some false else wholeL k last n res r (i + 1)
def vcode_Code_whole.f (k : Nat) (p n : Int) (res : Bool) (l0 : List S87) (ins : List S84) (nxt : List Int) (depth : Int) : Option Bool :=
  if ins.length = 0 then some false else
  (vcode_Ends.f (rd_T84 ins ((ins.length : Int) - 1)).f0).bind fun e => (vcode_follows.f (rd_T84 ins ((ins.length : Int) - 1)).f0 (nxt.length : Int)).bind fun f =>
  if (!e || !f || decide (depth < 0) || decide (64 < depth)) = true then some false else
  (wholeL k ((ins.length : Int) - 1) n res ins 0).bind fun b => some (b && !(nxt.any fun x => awayB x (l0.length : Int)))
theorem cells3 {w : World} {g : Nat} {t : TypeId} {a b c : Value} (h : w.heap[g]? = some (.cells #[a, b, c] t (0, 0))) : w.cell? ⟨g, 0, none⟩ = some a ∧ w.cell? ⟨g, 1, none⟩ = some b ∧ w.cell? ⟨g, 2, none⟩ = some c := ⟨blk_cell h 0, blk_cell h 1, blk_cell h 2⟩
theorem mayO_calls (k : Nat) (params n : Int) (res : Bool) (Ab : Value) (x : S84) (As : Option Addr) (cs : Nat) (r : Bool) (w : World)
    (hr : Kd.C (Kd.int .i64) w As x.f2.length x.f2) (hc : x.f2.length ≤ cs) (hG : GG [0] w) (h : mayO k n res x = some r) :
    Calls Tryz.prog 88 #[.agg #[.int .i64 params, .int .i64 n, .bool res, Ab], .agg #[.int .u8 x.f0, .int .i64 x.f1, .slice As x.f2.length cs, .int .i64 x.f3, .int .u32 x.f4]] w fun e w' => e = .returned (.bool r) ∧ Below w.heap.size w w' := by
  unfold mayO at h
  obtain ⟨⟨takes, least, gives, free, is⟩, hs, h⟩ := Option.bind_eq_some_iff.mp h
  obtain ⟨m, hm, h⟩ := Option.bind_eq_some_iff.mp h
  obtain ⟨nb, hn, h⟩ := Option.bind_eq_some_iff.mp h
  have h := Option.some.inj h
  rw [← h]
  exact may_calls k params n res Ab x.f0 x.f1 As cs x.f2 x.f3 x.f4 takes least gives free is m nb w hr hc hG hs hm hn
set_option maxHeartbeats 8000000 in
set_option maxRecDepth 100000 in
theorem vcode_Code_whole.calls (k : Nat) (a0_0 : Int) (a0_1 : Int) (a0_2 : Bool) (A0_3 : Option Addr) (c0_3 : Nat) (l0_3 : List S87) (A1_0 : Option Addr) (c1_0 : Nat) (l1_0 : List S84) (A1_1 : Option Addr) (c1_1 : Nat) (l1_1 : List Int) (a1_2 : Int) (r : Bool) (w : World)
    (hr0_3 : Kd.C k87 w A0_3 l0_3.length l0_3) (hc0_3 : l0_3.length ≤ c0_3) (hr1_0 : Kd.C k84 w A1_0 l1_0.length l1_0) (hc1_0 : l1_0.length ≤ c1_0) (hr1_1 : Kd.C (Kd.int .i64) w A1_1 l1_1.length l1_1) (hc1_1 : l1_1.length ≤ c1_1) (hG : GG [0] w)
    (h : vcode_Code_whole.f k a0_0 a0_1 a0_2 l0_3 l1_0 l1_1 a1_2 = some r) :
    Calls Tryz.prog 63 #[.agg #[.int .i64 a0_0, .int .i64 a0_1, .bool a0_2, .slice A0_3 l0_3.length c0_3], .agg #[.slice A1_0 l1_0.length c1_0, .slice A1_1 l1_1.length c1_1, .int .i64 a1_2]] w fun e w' => e = .returned (.bool r) ∧ Below w.heap.size w w' := by
  have hm := hr1_0.2.1
  unfold vcode_Code_whole.f at h
  have HR0 := Lib.hid hr0_3
  have HR1 := Lib.hid hr1_0
  have HR2 := Lib.hid hr1_1
  have HG := Lib.hid hG
  clear hr0_3 hr1_0 hr1_1 hG hc0_3 hc1_0
  have GN := fun w1 : World => GG.nil w1
  by_cases h0 : l1_0.length = 0
  · rw [if_pos h0] at h
    obtain rfl := Option.some.inj h
    clear h HR0 HR1 HR2 HG
    go_enter Tryz.func63, Tryz.ntmps63
    rw [h0]
    go_upto_region 2 with (first | fail)
    go_quiet (fail)
    go_wp2
    go_ret
    exact ⟨rfl, pw_below_drewN (below_alloc (below_alloc (Below.refl w.heap.size w) _) _) _⟩
  · rw [if_neg h0] at h
    obtain ⟨e, he, h⟩ := Option.bind_eq_some_iff.mp h
    obtain ⟨f, hf, h⟩ := Option.bind_eq_some_iff.mp h
    have hlast : ∃ last : Int, last = (l1_0.length : Int) - 1 ∧ 0 ≤ last ∧ last < (l1_0.length : Int) := ⟨_, rfl, by omega, by omega⟩
    obtain ⟨last, hl, hl0, hl1⟩ := hlast
    rw [← hl] at he hf h
    obtain ⟨ad, A2, c2, rfl, hx0, hx1, hx2, hx3, hx4, hxl, hxr⟩ := at_T84 HR1.out last hl0 hl1
    clear hx1 hx2 hx3 hx4 hxl hxr
    have HE := Lib.hid (fun w1 => vcode_Ends.calls (rd_T84 l1_0 last).f0 e w1 (GG.nil w1) he)
    have HF := Lib.hid (fun w1 => vcode_follows.calls (rd_T84 l1_0 last).f0 (l1_1.length : Int) f w1 (GG.nil w1) hf)
    have Hh := Lib.hid h
    clear h he hf h0
    have hn0 : decide (last < 0) = false := decide_eq_false (by omega)
    have q0 := eq_true hl0
    have q1 := eq_true hl1
    have HX := Lib.hid hx0
    clear hx0
    go_enter Tryz.func63, Tryz.ntmps63
    go_upto_region 2 with (first | fail)
    (try simp only [Act.put, List.setIfInBounds_toArray, List.set_cons_zero, List.set_cons_succ])
    rw [← hl]
    clear hl
    have h1s := heap_alloc_size2 w (.cells #[.int .i64 a0_0, .int .i64 a0_1, .bool a0_2, .slice A0_3 l0_3.length c0_3] 35 (0, 0))
    have bC := blk_alloc (blk_new w (.cells #[.int .i64 a0_0, .int .i64 a0_1, .bool a0_2, .slice A0_3 l0_3.length c0_3] 35 (0, 0))) (.cells #[.slice (some ad) l1_0.length c1_0, .slice A1_1 l1_1.length c1_1, .int .i64 a1_2] 87 (0, 0))
    have bX := blk_new (w.alloc (.cells #[.int .i64 a0_0, .int .i64 a0_1, .bool a0_2, .slice A0_3 l0_3.length c0_3] 35 (0, 0))) (.cells #[.slice (some ad) l1_0.length c1_0, .slice A1_1 l1_1.length c1_1, .int .i64 a1_2] 87 (0, 0))
    rw [h1s] at bX
    have bB := below_alloc (below_alloc (Below.refl w.heap.size w) (.cells #[.int .i64 a0_0, .int .i64 a0_1, .bool a0_2, .slice A0_3 l0_3.length c0_3] 35 (0, 0))) (.cells #[.slice (some ad) l1_0.length c1_0, .slice A1_1 l1_1.length c1_1, .int .i64 a1_2] 87 (0, 0))
    revert bC bX bB
    generalize (w.alloc (.cells #[.int .i64 a0_0, .int .i64 a0_1, .bool a0_2, .slice A0_3 l0_3.length c0_3] 35 (0, 0))).alloc (.cells #[.slice (some ad) l1_0.length c1_0, .slice A1_1 l1_1.length c1_1, .int .i64 a1_2] 87 (0, 0)) = w2
    intro bC bX bB
    have BC := Lib.hid bC
    have BX := Lib.hid bX
    have BB := Lib.hid bB
    clear bC bX bB h1s
    go_cut [46] (fun v wc => v = .bool (!e || !f || decide (a1_2 < 0) || decide (64 < a1_2)) ∧ Hid (wc.heap[w.heap.size]? = some (.cells #[.int .i64 a0_0, .int .i64 a0_1, .bool a0_2, .slice A0_3 l0_3.length c0_3] 35 (0, 0))) ∧ Hid (wc.heap[w.heap.size + 1]? = some (.cells #[.slice (some ad) l1_0.length c1_0, .slice A1_1 l1_1.length c1_1, .int .i64 a1_2] 87 (0, 0))) ∧ Hid (Below w.heap.size w wc))
    case first =>
      obtain ⟨zc0, zc1, zc2, zc3⟩ := cells4 BC.out
      obtain ⟨zx0, zx1, zx2⟩ := cells3 BX.out
      have hx := BB.out.cell (World.block_lt_of_cell? w _ HX.out)
      rw [HX.out] at hx
      cases e with
      | false =>
        go_quiet (first | (go_at_call 41; exact Calls.quiet_of ((HE.out _).mono fun _ _ h => ⟨h.1, h.2.out⟩)) | (go_at_call 87; exact Calls.quiet_of ((HF.out _).mono fun _ _ h => ⟨h.1, h.2.out⟩)))
        go_wp2
        go_meet
        case rel => exact ⟨rfl, Lib.hid (blk_drewN BC.out _), Lib.hid (blk_drewN BX.out _), Lib.hid (pw_below_drewN BB.out _)⟩
      | true =>
        cases f with
        | false =>
          go_quiet (first | (go_at_call 41; exact Calls.quiet_of ((HE.out _).mono fun _ _ h => ⟨h.1, h.2.out⟩)) | (go_at_call 87; exact Calls.quiet_of ((HF.out _).mono fun _ _ h => ⟨h.1, h.2.out⟩)))
          go_wp2
          go_meet
          case rel => exact ⟨rfl, Lib.hid (blk_drewN BC.out _), Lib.hid (blk_drewN BX.out _), Lib.hid (pw_below_drewN BB.out _)⟩
        | true =>
          by_cases h3 : decide (a1_2 < 0) = true
          · go_quiet (first | (go_at_call 41; exact Calls.quiet_of ((HE.out _).mono fun _ _ h => ⟨h.1, h.2.out⟩)) | (go_at_call 87; exact Calls.quiet_of ((HF.out _).mono fun _ _ h => ⟨h.1, h.2.out⟩)))
            go_wp2
            go_meet
            case rel => exact ⟨by rw [h3]; rfl, Lib.hid (blk_drewN BC.out _), Lib.hid (blk_drewN BX.out _), Lib.hid (pw_below_drewN BB.out _)⟩
          · rw [Bool.not_eq_true] at h3
            go_quiet (first | (go_at_call 41; exact Calls.quiet_of ((HE.out _).mono fun _ _ h => ⟨h.1, h.2.out⟩)) | (go_at_call 87; exact Calls.quiet_of ((HF.out _).mono fun _ _ h => ⟨h.1, h.2.out⟩)))
            go_wp2
            go_meet
            case rel => exact ⟨by rw [h3]; rfl, Lib.hid (blk_drewN BC.out _), Lib.hid (blk_drewN BX.out _), Lib.hid (pw_below_drewN BB.out _)⟩
    case rest =>
      clear BC BX BB HE HF
      obtain ⟨rfl, BC, BX, BB⟩ := hcut
      obtain ⟨zc0, zc1, zc2, zc3⟩ := cells4 BC.out
      obtain ⟨zx0, zx1, zx2⟩ := cells3 BX.out
      cases hP : (!e || !f || decide (a1_2 < 0) || decide (64 < a1_2)) with
      | true =>
        have h := Hh.out
        rw [hP] at h
        obtain rfl := Option.some.inj h
        clear h
        go_wp2
        go_ret
        exact ⟨rfl, BB.out⟩
      | false =>
        have h := Hh.out
        rw [hP, if_neg (by decide)] at h
        clear Hh
        obtain ⟨b, hb, h⟩ := Option.bind_eq_some_iff.mp h
        have h := Option.some.inj h
        have Hr := Lib.hid h
        have HL := Lib.hid hb
        clear h hb hP
        go_wp2
        go_loopw [50] (fun v wc => ∃ i : Int, 0 ≤ i ∧ i ≤ (l1_0.length : Int) ∧ v = .int .i64 i ∧ Hid (wholeL k last a0_1 a0_2 (l1_0.drop i.toNat) i = some b) ∧ Hid (wc.heap[w.heap.size]? = some (.cells #[.int .i64 a0_0, .int .i64 a0_1, .bool a0_2, .slice A0_3 l0_3.length c0_3] 35 (0, 0))) ∧ Hid (wc.heap[w.heap.size + 1]? = some (.cells #[.slice (some ad) l1_0.length c1_0, .slice A1_1 l1_1.length c1_1, .int .i64 a1_2] 87 (0, 0))) ∧ Hid (Below w.heap.size w wc)) (fun v _ => l1_0.length - (intOf v).toNat)
        case atStart => exact ⟨0, by omega, by omega, rfl, HL, BC, BX, BB⟩
        case round =>
          clear BC BX BB zc0 zc1 zc2 zc3 zx0 zx1 zx2 HL
          obtain ⟨i, hi0, hi1, rfl, HL, BC, BX, BB⟩ := hrel
          obtain ⟨zc0, zc1, zc2, zc3⟩ := cells4 BC.out
          obtain ⟨zx0, zx1, zx2⟩ := cells3 BX.out
          by_cases hlt : i < (l1_0.length : Int)
          · obtain ⟨ad', A3, c3, e3, hx0, hx1, hx2, hx3, hx4, hxl, hxr⟩ := at_T84 HR1.out i hi0 hlt
            cases e3
            have hL := HL.out
            have hdrop : l1_0.drop i.toNat = rd_T84 l1_0 i :: l1_0.drop (i + 1).toNat := by
              have hn : i.toNat < l1_0.length := by omega
              rw [List.drop_eq_getElem_cons hn, show (i + 1).toNat = i.toNat + 1 by omega]
              simp [rd_T84, List.getD_eq_getElem?_getD, List.getElem?_eq_getElem hn]
            rw [hdrop] at hL
            clear hdrop HL
            generalize hxe : rd_T84 l1_0 i = x at hx0 hx1 hx2 hx3 hx4 hxl hxr hL
            clear hxe
            have hx0 := (BB.out.cell (World.block_lt_of_cell? w _ hx0)).trans hx0
            have hx1 := (BB.out.cell (World.block_lt_of_cell? w _ hx1)).trans hx1
            have hx2 := (BB.out.cell (World.block_lt_of_cell? w _ hx2)).trans hx2
            have hx3 := (BB.out.cell (World.block_lt_of_cell? w _ hx3)).trans hx3
            have hx4 := (BB.out.cell (World.block_lt_of_cell? w _ hx4)).trans hx4
            have xR := Lib.hid hxr
            have xL := Lib.hid hxl
            clear hxr hxl
            unfold wholeL at hL
            obtain ⟨m, hm, hL⟩ := Option.bind_eq_some_iff.mp hL
            obtain ⟨e, he, hL⟩ := Option.bind_eq_some_iff.mp hL
            have Hm := Lib.hid hm
            have HE := Lib.hid (fun w1 => vcode_Ends.calls x.f0 e w1 (GG.nil w1) he)
            clear hm he
            obtain ⟨za0, za1, za2, za3⟩ := cells4 (blk_alloc BC.out (.cells #[.int .u8 x.f0, .int .i64 x.f1, .slice A3 x.f2.length c3, .int .i64 x.f3, .int .u32 x.f4] 84 (0, 0)))
            obtain ⟨zy0, zy1, zy2, zy3, zy4⟩ := cells5 (blk_new wr (.cells #[.int .u8 x.f0, .int .i64 x.f1, .slice A3 x.f2.length c3, .int .i64 x.f3, .int .u32 x.f4] 84 (0, 0)))
            have q2 := eq_true hi0
            have q3 := eq_true hlt
            have hltb : decide (i < (l1_0.length : Int)) = true := decide_eq_true hlt
            cases m with
            | false =>
              have hL : some false = some b := hL
              obtain rfl := Option.some.inj hL
              clear hL
              have hr : r = false := Hr.out.symm
              subst hr
              go_wp2_with (first | (go_at_call 88; refine (mayO_calls k a0_0 a0_1 a0_2 _ x A3 c3 _ _ (Kd.C_below xR.out (below_alloc BB.out _)) xL.out (GG.below (below_alloc BB.out _) HG.out) Hm.out).mono ?_; rintro e w4 ⟨rfl, hb⟩; have bC := blk_below (blk_alloc BC.out _) hb; have bX := blk_below (blk_alloc BX.out _) hb; have bN := blk_below (blk_new _ _) hb; have bB := below_then (below_alloc BB.out _) (below_size (below_alloc BB.out _)) hb; have BC2 := Lib.hid bC; have BX2 := Lib.hid bX; have BB2 := Lib.hid bB; obtain ⟨zn0, zn1, zn2, zn3, zn4⟩ := cells5 bN; clear bC bX bN bB hb))
              go_ret
              exact ⟨rfl, BB2.out⟩
            | true =>
              by_cases h5 : decide (i < last) = true
              · cases e with
                | true =>
                  rw [h5] at hL
                  have hL : some false = some b := hL
                  obtain rfl := Option.some.inj hL
                  clear hL
                  have hr : r = false := Hr.out.symm
                  subst hr
                  go_wp2_with (first | (go_at_call 88; refine (mayO_calls k a0_0 a0_1 a0_2 _ x A3 c3 _ _ (Kd.C_below xR.out (below_alloc BB.out _)) xL.out (GG.below (below_alloc BB.out _) HG.out) Hm.out).mono ?_; rintro e w4 ⟨rfl, hb⟩; have bC := blk_below (blk_alloc BC.out _) hb; have bX := blk_below (blk_alloc BX.out _) hb; have bN := blk_below (blk_new _ _) hb; have bB := below_then (below_alloc BB.out _) (below_size (below_alloc BB.out _)) hb; have BC2 := Lib.hid bC; have BX2 := Lib.hid bX; have BB2 := Lib.hid bB; obtain ⟨zn0, zn1, zn2, zn3, zn4⟩ := cells5 bN; clear bC bX bN bB hb) | (go_at_call 41; refine (HE.out _).mono ?_; rintro e w5 ⟨rfl, ⟨nd, rfl⟩⟩))
                  go_ret
                  exact ⟨rfl, pw_below_drewN BB2.out _⟩
                | false =>
                  rw [h5] at hL
                  have HL2 : Hid (wholeL k last a0_1 a0_2 (l1_0.drop (i + 1).toNat) (i + 1) = some b) := Lib.hid hL
                  clear hL
                  go_wp2_with (first | (go_at_call 88; refine (mayO_calls k a0_0 a0_1 a0_2 _ x A3 c3 _ _ (Kd.C_below xR.out (below_alloc BB.out _)) xL.out (GG.below (below_alloc BB.out _) HG.out) Hm.out).mono ?_; rintro e w4 ⟨rfl, hb⟩; have bC := blk_below (blk_alloc BC.out _) hb; have bX := blk_below (blk_alloc BX.out _) hb; have bN := blk_below (blk_new _ _) hb; have bB := below_then (below_alloc BB.out _) (below_size (below_alloc BB.out _)) hb; have BC2 := Lib.hid bC; have BX2 := Lib.hid bX; have BB2 := Lib.hid bB; obtain ⟨zn0, zn1, zn2, zn3, zn4⟩ := cells5 bN; clear bC bX bN bB hb) | (go_at_call 41; refine (HE.out _).mono ?_; rintro e w5 ⟨rfl, ⟨nd, rfl⟩⟩))
                  go_roundw
                  case rel => exact ⟨i + 1, by omega, by omega, by first | rfl | go_num, HL2, Lib.hid (blk_drewN BC2.out _), Lib.hid (blk_drewN BX2.out _), Lib.hid (pw_below_drewN BB2.out _)⟩
                  case measure => simp [intOf]; omega
              · rw [Bool.not_eq_true] at h5
                rw [h5] at hL
                have HL2 : Hid (wholeL k last a0_1 a0_2 (l1_0.drop (i + 1).toNat) (i + 1) = some b) := Lib.hid hL
                clear hL
                go_wp2_with (first | (go_at_call 88; refine (mayO_calls k a0_0 a0_1 a0_2 _ x A3 c3 _ _ (Kd.C_below xR.out (below_alloc BB.out _)) xL.out (GG.below (below_alloc BB.out _) HG.out) Hm.out).mono ?_; rintro e w4 ⟨rfl, hb⟩; have bC := blk_below (blk_alloc BC.out _) hb; have bX := blk_below (blk_alloc BX.out _) hb; have bN := blk_below (blk_new _ _) hb; have bB := below_then (below_alloc BB.out _) (below_size (below_alloc BB.out _)) hb; have BC2 := Lib.hid bC; have BX2 := Lib.hid bX; have BB2 := Lib.hid bB; obtain ⟨zn0, zn1, zn2, zn3, zn4⟩ := cells5 bN; clear bC bX bN bB hb))
                go_roundw
                case rel => exact ⟨i + 1, by omega, by omega, by first | rfl | go_num, HL2, BC2, BX2, BB2⟩
                case measure => simp [intOf]; omega
          · have hie : i = (l1_0.length : Int) := by omega
            have hb : b = true := by
              have hL := HL.out
              rw [hie, List.drop_eq_nil_of_le (by omega)] at hL
              exact (Option.some.inj hL).symm
            subst hb
            have hltb : decide (i < (l1_0.length : Int)) = false := decide_eq_false hlt
            clear hie
            go_wp2_with (first | (go_at_call 89; refine (awayAny_Whole l1_1 A1_1 c1_1 A0_3 l0_3.length c0_3 w.heap.size _ (Kd.C_below HR2.out BB.out) ((blk_cell BC.out 3).trans rfl)).mono ?_; rintro e w3 ⟨rfl, rfl⟩))
            go_ret
            exact ⟨by rw [← Hr.out]; rfl, BB.out⟩
end Go.Proofs.YthgkeehpoilgaaaGreatDoor.Hw
end

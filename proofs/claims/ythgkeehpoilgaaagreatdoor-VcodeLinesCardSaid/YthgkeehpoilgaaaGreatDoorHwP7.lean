import Derived.Test.YthgkeehpoilgaaaGreatDoorHwP2
import Derived.Test.YthgkeehpoilgaaaGreatDoorHwP3
import Derived.Test.YthgkeehpoilgaaaGreatDoorHwP5
import Derived.Test.YthgkeehpoilgaaaGreatDoorHwP6
section
namespace Go.Proofs.YthgkeehpoilgaaaGreatDoor.Hw
open Go.RowKit Go.Proofs.YthgkeehpoilgaaaGreatDoorW.PrintWords Go.Proofs.YthgkeehpoilgaaaGreatDoorW.PrintLast Go.Proofs.YthgkeehpoilgaaaGreatDoorW.PrintMore
attribute [local go_sem] max2_int min2_int max_two min_two max_three min_three max_four min_four
set_option linter.unusedVariables false
set_option linter.unusedSimpArgs false
mutual
def mandrelref11_May.j0 : Nat → Bool → Int → Int → Bool → List (S80) → Option (Bool)
 | 0, _, _, _, _, _ => none
 | k + 1, x39, x227000, x227001, x227002, x227003 => if x39 = true then (some false) else (mandrelref11_May.l0 k 0 x227000 x227001 x227002 x227003)
def mandrelref11_May.l0 : Nat → Int → Int → Int → Bool → List (S80) → Option (Bool)
 | 0, _, _, _, _, _ => none
 | k + 1, x3, x227000, x227001, x227002, x227003 => if x3 < (x227003.length : Int) then (if 0 ≤ x3 then (if (((rd_T80 x227003 x3).f0).length : Int) = 0 then (mandrelref11_May.j2 k x3 true x227000 x227001 x227002 x227003 ((rd_T80 x227003 x3).f0) ((rd_T80 x227003 x3).f1) ((rd_T80 x227003 x3).f2)) else (if ((rd_T80 x227003 x3).f2) < 0 then (mandrelref11_May.j2 k x3 true x227000 x227001 x227002 x227003 ((rd_T80 x227003 x3).f0) ((rd_T80 x227003 x3).f1) ((rd_T80 x227003 x3).f2)) else (mandrelref11_May.j2 k x3 (decide (((rd_T80 x227003 x3).f2) > 64)) x227000 x227001 x227002 x227003 ((rd_T80 x227003 x3).f0) ((rd_T80 x227003 x3).f1) ((rd_T80 x227003 x3).f2)))) else (none)) else (some true)
def mandrelref11_May.j2 : Nat → Int → Bool → Int → Int → Bool → List (S80) → List (S83) → List Int → Int → Option (Bool)
 | 0, _, _, _, _, _, _, _, _, _ => none
 | k + 1, x3, x65, x227000, x227001, x227002, x227003, x230000, x230001, x230002 => if x65 = true then (some false) else (mandrelref11_May.l1 k x3 0 x227000 x227001 x227002 x227003 x230000 x230001 x230002)
def mandrelref11_May.l1 : Nat → Int → Int → Int → Int → Bool → List (S80) → List (S83) → List Int → Int → Option (Bool)
 | 0, _, _, _, _, _, _, _, _, _ => none
 | k + 1, x3, x5, x227000, x227001, x227002, x227003, x230000, x230001, x230002 => if x5 < (x230000.length : Int) then (if 0 ≤ x5 then ((mandrelref11_ins.f k x227000 x227001 x227002 x227003 ((rd_T83 x230000 x5).f0) ((rd_T83 x230000 x5).f1) ((rd_T83 x230000 x5).f2) ((rd_T83 x230000 x5).f3) ((rd_T83 x230000 x5).f4)).bind fun t231 => (if t231 = true then ((mandrelref11_Ends.f ((rd_T83 x230000 x5).f0)).bind fun t233 => (if (t233 != (x5 == (wrap64 ((x230000.length : Int) - 1)))) = true then (some false) else (mandrelref11_May.l1 k x3 (wrap64 (x5 + 1)) x227000 x227001 x227002 x227003 x230000 x230001 x230002))) else (some false))) else (none)) else (mandrelref11_May.l2 k x3 0 x227000 x227001 x227002 x227003 x230000 x230001 x230002)
def mandrelref11_May.l2 : Nat → Int → Int → Int → Int → Bool → List (S80) → List (S83) → List Int → Int → Option (Bool)
 | 0, _, _, _, _, _, _, _, _, _ => none
 | k + 1, x3, x6, x227000, x227001, x227002, x227003, x230000, x230001, x230002 => if x6 < (x230001.length : Int) then (if 0 ≤ x6 then (if (rd x230001 x6) < 0 then (some false) else (if (rd x230001 x6) ≥ (x227003.length : Int) then (some false) else (mandrelref11_May.l2 k x3 (wrap64 (x6 + 1)) x227000 x227001 x227002 x227003 x230000 x230001 x230002))) else (none)) else (if 0 ≤ (wrap64 ((x230000.length : Int) - 1)) then (if (wrap64 ((x230000.length : Int) - 1)) < (x230000.length : Int) then ((mandrelref11_Name.f k ((rd_T83 x230000 (wrap64 ((x230000.length : Int) - 1))).f0)).bind fun t237 => (if t237.toList = ([106, 117, 109, 112] : List UInt8) then (if (x230001.length : Int) = 1 then (mandrelref11_May.l0 k (wrap64 (x3 + 1)) x227000 x227001 x227002 x227003) else (some false)) else (if t237.toList = ([98, 114, 97, 110, 99, 104] : List UInt8) then (if (x230001.length : Int) = 2 then (mandrelref11_May.l0 k (wrap64 (x3 + 1)) x227000 x227001 x227002 x227003) else (some false)) else (if t237.toList = ([116, 97, 98, 108, 101] : List UInt8) then (if (x230001.length : Int) < 1 then (some false) else (if (x230001.length : Int) > 257 then (some false) else (mandrelref11_May.l0 k (wrap64 (x3 + 1)) x227000 x227001 x227002 x227003))) else (if (x230001.length : Int) = 0 then (mandrelref11_May.l0 k (wrap64 (x3 + 1)) x227000 x227001 x227002 x227003) else (some false)))))) else (none)) else (none))
end
def mandrelref11_May.f (k : Nat) (a0_0 : Int) (a0_1 : Int) (a0_2 : Bool) (l0_3 : List (S80)) : Option (Bool) := if a0_0 < 0 then (mandrelref11_May.j0 k true a0_0 a0_1 a0_2 l0_3) else (if a0_0 > a0_1 then (mandrelref11_May.j0 k true a0_0 a0_1 a0_2 l0_3) else (if a0_1 > 1024 then (mandrelref11_May.j0 k true a0_0 a0_1 a0_2 l0_3) else (if (l0_3.length : Int) < 1 then (mandrelref11_May.j0 k true a0_0 a0_1 a0_2 l0_3) else (if (l0_3.length : Int) > 4096 then (mandrelref11_May.j0 k true a0_0 a0_1 a0_2 l0_3) else ((mandrelref11_Size.f k a0_0 a0_1 a0_2 l0_3).bind fun t227 => (mandrelref11_May.j0 k (decide (t227 > 16384)) a0_0 a0_1 a0_2 l0_3))))))
def mandrelref11_May.T12 : Bool × List (List Nat × List Nat) := (true, [([], []), ([], []), ([1], [1]), ([], []), ([2, 3], [2, 3]), ([4], [4]), ([0, 5], [0, 5]), ([6], [6]), ([7, 6], [7]), ([8], [8]), ([9, 8], [8, 9]), ([8], [8]), ([10, 11, 8], [8, 10, 11]), ([12, 8], [8, 12]), ([13, 8], [8, 13]), ([14, 8, 8], [8, 14]), ([8], [8]), ([8], [8]), ([17, 8], [8, 17]), ([18, 8], [8, 18]), ([19, 8], [8, 19]), ([16, 20, 8], [8, 16, 20]), ([15, 21, 8], [8, 15, 21]), ([8, 22], [8, 22])])
def mandrelref11_May.B12 : List Nat := [0, 0, 2, 0, 14, 30, 63, 127, 255, 511, 1023, 511, 4095, 8191, 16383, 32767, 511, 511, 131583, 393727, 918015, 2032127, 4194303, 8388607]
theorem mandrelref11_May.tab12 : rtab .any (opsOf Tryz.f12 12) = mandrelref11_May.T12 := Q0
theorem mandrelref11_May.bits12 : waitsOk mandrelref11_May.T12.2 mandrelref11_May.B12 = true := Q0
def mandrelref11_May.T17 : Bool × List (List Nat × List Nat) := (true, [([], []), ([0], [0]), ([], []), ([1, 2], [1, 2]), ([3], [3]), ([4], [4]), ([5], [5]), ([6], [6]), ([7, 6], [6, 7]), ([6], [6]), ([8, 9, 6], [6, 8, 9]), ([10, 6], [6, 10]), ([6], [6]), ([12, 6], [6, 12]), ([13, 6], [6, 13]), ([11, 14, 6], [6, 11, 14]), ([6, 15], [6, 15])])
def mandrelref11_May.B17 : List Nat := [0, 1, 0, 7, 15, 31, 63, 127, 255, 127, 1023, 2047, 127, 4223, 12415, 32767, 65535]
theorem mandrelref11_May.tab17 : rtab .any (opsOf Tryz.f12 17) = mandrelref11_May.T17 := Q0
theorem mandrelref11_May.bits17 : waitsOk mandrelref11_May.T17.2 mandrelref11_May.B17 = true := Q0
set_option maxHeartbeats 8000000 in
set_option maxRecDepth 100000 in
theorem mandrelref11_May.calls (k : Nat) (a0_0 : Int) (a0_1 : Int) (a0_2 : Bool) (A0_3 : Option Addr) (c0_3 : Nat) (l0_3 : List (S80)) (r : Bool) (w : World) (hr0_3 : Kd.C k80 w A0_3 l0_3.length l0_3) (hc0_3 : l0_3.length ≤ c0_3) (hG : GG [] w) (h : mandrelref11_May.f k a0_0 a0_1 a0_2 l0_3 = some r) :
  Calls Tryz.prog 12 #[.agg #[.int .i64 a0_0, .int .i64 a0_1, .bool a0_2, .slice A0_3 l0_3.length c0_3]] w fun e w' => e = .returned (.bool r) ∧ Below w.heap.size w w' := by
 have hu24 := Tryz.underlying24
 have hu80 := Tryz.underlying80
 have hu83 := Tryz.underlying83
 have HR0_3 := Aside0.mk hr0_3
 have HC0_3 := Aside0.mk hc0_3
 clear hr0_3 hc0_3
 have HB := Aside0.mk (Below.refl w.heap.size w)
 have HG := Aside0.mk hG
 clear hG
 have H : (if a0_0 < 0 then (mandrelref11_May.j0 k true a0_0 a0_1 a0_2 l0_3) else (if a0_0 > a0_1 then (mandrelref11_May.j0 k true a0_0 a0_1 a0_2 l0_3) else (if a0_1 > 1024 then (mandrelref11_May.j0 k true a0_0 a0_1 a0_2 l0_3) else (if (l0_3.length : Int) < 1 then (mandrelref11_May.j0 k true a0_0 a0_1 a0_2 l0_3) else (if (l0_3.length : Int) > 4096 then (mandrelref11_May.j0 k true a0_0 a0_1 a0_2 l0_3) else ((mandrelref11_Size.f k a0_0 a0_1 a0_2 l0_3).bind fun t227 => (mandrelref11_May.j0 k (decide (t227 > 16384)) a0_0 a0_1 a0_2 l0_3))))))) = some r := h
 clear h
 have HC2 := Aside0.mk H
 clear H
 go_enter Tryz.func12, Tryz.ntmps12
 go_upto_region 1 with (first | ((with_reducible refine gate_dst (N := 1) rfl ?_); (try (refine gate_guard Q2 ?_; dsimp only)); refine box_event ?hg (N := 1) ?hd (cs := #[.int .i64 a0_0, .int .i64 a0_1, .bool a0_2, .slice A0_3 l0_3.length c0_3]) (t := 24) ?hr ?_; (case hd => rfl); (case hg => rfl); (case hr => first | (go_simp; done) | (go_simp; rfl)); intro gb226 hg w3 hbox hb; have n0_ := Aside0.mk (below_step Q1 hb); have n1_ := Aside0.mk (hbox); have n2_ := Aside0.mk ((Q155 : w.heap.size ≤ gb226)); have n3_ := Aside0.mk ((Q155 : w.heap.size ≤ gb226)); clear HB; have HB := n0_; have BK226 := n1_; have GW226 := n2_; have GE226 := n3_; clear n0_ n1_ n2_ n3_; clear hb hbox hg))
 (try simp only [Act.put, List.setIfInBounds_toArray, List.set_cons_zero, List.set_cons_succ])
 go_cut [39] (fun v39 wc => ∃ (kq : Nat) (x39_1 : Bool), v39 = .bool x39_1 ∧ Aside0 (mandrelref11_May.j0 kq x39_1 a0_0 a0_1 a0_2 l0_3 = some r) ∧ Aside0 (kq ≤ k) ∧ Aside0 (wc.heap[gb226]? = some (.cells #[.int .i64 a0_0, .int .i64 a0_1, .bool a0_2, (.slice A0_3 l0_3.length c0_3)] 24 (0, 0))) ∧ Aside0 (Below w.heap.size w wc))
 case first =>
  have H := HC2.out
  clear HC2
  by_cases c4 : a0_0 < 0
  ·rw [if_pos c4] at H
   have c4b0 : decide (a0_0 < 0) = true := decide_eq_true c4
   clear c4
   (first | rw [c4b0] | (simp only [i64_w, i32_w]; rw [c4b0]) | skip)
   have H' := Aside0.mk H
   clear H
   have ⟨hcz5_0, hcz5_1, hcz5_2, hcz5_3, hfz5_0, hfz5_1, hfz5_2, hfz5_3⟩ := blk4 BK226.out
   go_wp2
   go_meet
   case rel => exact ⟨_, (true), Q3, H', ⟨Q15⟩, ⟨Q27⟩, ⟨Q40⟩⟩
  rw [if_neg c4] at H
  have c4b0 : decide (a0_0 < 0) = false := decide_eq_false c4
  clear c4
  (first | rw [c4b0] | (simp only [i64_w, i32_w]; rw [c4b0]) | skip)
  by_cases c6 : a0_0 > a0_1
  ·rw [if_pos c6] at H
   have c6b0 : decide (a0_1 < a0_0) = true := decide_eq_true c6
   clear c6
   have H' := Aside0.mk H
   clear H
   have ⟨hcz7_0, hcz7_1, hcz7_2, hcz7_3, hfz7_0, hfz7_1, hfz7_2, hfz7_3⟩ := blk4 BK226.out
   go_wp2
   go_meet
   case rel => exact ⟨_, (true), Q3, H', ⟨Q15⟩, ⟨Q27⟩, ⟨Q40⟩⟩
  rw [if_neg c6] at H
  have c6b0 : decide (a0_1 < a0_0) = false := decide_eq_false c6
  clear c6
  by_cases c8 : a0_1 > 1024
  ·rw [if_pos c8] at H
   have c8b0 : decide (1024 < a0_1) = true := decide_eq_true c8
   clear c8
   have H' := Aside0.mk H
   clear H
   have ⟨hcz9_0, hcz9_1, hcz9_2, hcz9_3, hfz9_0, hfz9_1, hfz9_2, hfz9_3⟩ := blk4 BK226.out
   go_wp2
   go_meet
   case rel => exact ⟨_, (true), Q3, H', ⟨Q15⟩, ⟨Q27⟩, ⟨Q40⟩⟩
  rw [if_neg c8] at H
  have c8b0 : decide (1024 < a0_1) = false := decide_eq_false c8
  clear c8
  by_cases c10 : (l0_3.length : Int) < 1
  ·rw [if_pos c10] at H
   have c10b0 : decide ((l0_3.length : Int) < 1) = true := decide_eq_true c10
   have c10b1 : decide (l0_3.length < 1) = true := decide_eq_true Q20
   clear c10
   have H' := Aside0.mk H
   clear H
   have ⟨hcz11_0, hcz11_1, hcz11_2, hcz11_3, hfz11_0, hfz11_1, hfz11_2, hfz11_3⟩ := blk4 BK226.out
   go_wp2
   go_meet
   case rel => exact ⟨_, (true), Q3, H', ⟨Q15⟩, ⟨Q27⟩, ⟨Q40⟩⟩
  rw [if_neg c10] at H
  have c10b0 : decide ((l0_3.length : Int) < 1) = false := decide_eq_false c10
  have c10b1 : decide (l0_3.length < 1) = false := decide_eq_false Q20
  clear c10
  by_cases c12 : (l0_3.length : Int) > 4096
  ·rw [if_pos c12] at H
   have c12b0 : decide (4096 < (l0_3.length : Int)) = true := decide_eq_true c12
   have c12b1 : decide (4096 < l0_3.length) = true := decide_eq_true Q20
   clear c12
   have H' := Aside0.mk H
   clear H
   have ⟨hcz13_0, hcz13_1, hcz13_2, hcz13_3, hfz13_0, hfz13_1, hfz13_2, hfz13_3⟩ := blk4 BK226.out
   go_wp2
   go_meet
   case rel => exact ⟨_, (true), Q3, H', ⟨Q15⟩, ⟨Q27⟩, ⟨Q40⟩⟩
  rw [if_neg c12] at H
  have c12b0 : decide (4096 < (l0_3.length : Int)) = false := decide_eq_false c12
  have c12b1 : decide (4096 < l0_3.length) = false := decide_eq_false Q20
  clear c12
  replace H := Option.bind_eq_some_iff.mp H
  obtain ⟨t227, A140, H⟩ := H
  replace H : (mandrelref11_May.j0 k (decide (t227 > 16384)) a0_0 a0_1 a0_2 l0_3) = some r := H
  have A14 := Aside0.mk A140
  clear A140
  have H' := Aside0.mk H
  clear H
  have ⟨hcz15_0, hcz15_1, hcz15_2, hcz15_3, hfz15_0, hfz15_1, hfz15_2, hfz15_3⟩ := blk4 BK226.out
  go_wp2_with (first | (go_at_call 7; (with_reducible refine (mandrelref11_Size.calls k a0_0 a0_1 a0_2 _ _ l0_3 t227 _ ?side1 ?side2 ?side3 A14.out).mono ?_); (case side1 => repeat (first | exact (Kd.C_below HR0_3.out HB.out) | (with_reducible refine Kd.C_alloc ?_ _) | (with_reducible refine Kd.C_drewN ?_ _) | (with_reducible refine Kd.C_drew ?_))); (case side2 => exact HC0_3.out); (case side3 => exact GG.nil _); rintro e w16 ⟨rfl, hb⟩; have n0_ := Aside0.mk (blk_below (g := gb226) (o := .cells #[.int .i64 a0_0, .int .i64 a0_1, .bool a0_2, .slice A0_3 l0_3.length c0_3] 24 (0, 0)) Q27 hb); have n1_ := Aside0.mk (below_step Q40 hb); clear BK226; clear HB; have BK226 := n0_; have HB := n1_; clear n0_ n1_; (try clear hb); (try clear hb2); (try clear hk); (try clear hi)))
  go_meet
  case rel => exact ⟨_, (decide (t227 > 16384)), Q3, H', ⟨Q15⟩, ⟨Q27⟩, ⟨Q40⟩⟩
 case rest =>
  clear HC2
  obtain ⟨kq, x39_1, rfl, HA, HJ1, BK226, HB⟩ := hcut
  cases kq with
  | zero => exact absurd HA.out (by simp [mandrelref11_May.j0])
  | succ kj1 =>
   have H := HA.out
   clear HA
   simp only [mandrelref11_May.j0] at H
   by_cases c17 : x39_1 = true
   ·subst c17
    have H1 : (some false) = some r := Q14
    clear H
    have H := H1
    clear H1
    obtain rfl := Option.some.inj H
    go_wp2
    go_ret
    exact ⟨Q6, Q40⟩
   replace c17 := Bool.eq_false_iff.mpr c17
   subst c17
   have H1 : (mandrelref11_May.l0 kj1 0 a0_0 a0_1 a0_2 l0_3) = some r := by rw [if_neg (show ¬ (false = true) by decide)] at H; exact H
   clear H
   have H := H1
   clear H1
   have H' := Aside0.mk H
   clear H
   go_wp2
   go_loopg [3] kj1 (fun kq v3 w' => ∃ (x3_2 : Int), v3 = .int .i64 x3_2 ∧ Aside0 (mandrelref11_May.l0 kq x3_2 a0_0 a0_1 a0_2 l0_3 = some r) ∧ Aside0 (kq ≤ kj1) ∧ Aside0 (w'.heap[gb226]? = some (.cells #[.int .i64 a0_0, .int .i64 a0_1, .bool a0_2, (.slice A0_3 l0_3.length c0_3)] 24 (0, 0))) ∧ Aside0 (Below w.heap.size w w'))
   case atStart => exact ⟨(0), Q3, H', ⟨Nat.le_refl _⟩, ⟨Q27⟩, ⟨Q40⟩⟩
   case round =>
    clear H'
    try clear c17
    obtain ⟨x3_2, rfl, HA, HK2, BK226, HB⟩ := hrel
    cases gk with
    | zero => exact absurd HA.out (by simp [mandrelref11_May.l0])
    | succ k2 =>
     have H := HA.out
     clear HA
     simp only [mandrelref11_May.l0] at H
     by_cases c18 : x3_2 < (l0_3.length : Int)
     ·rw [if_pos c18] at H
      have c18b0 : decide (x3_2 < (l0_3.length : Int)) = true := decide_eq_true c18
      clear c18
      by_cases c19 : 0 ≤ x3_2
      ·rw [if_pos c19] at H
       have c19b0 : decide (0 ≤ x3_2) = true := decide_eq_true c19
       clear c19
       have HC20 := Aside0.mk H
       clear H
       have ⟨hcz21_0, hcz21_1, hcz21_2, hcz21_3, hfz21_0, hfz21_1, hfz21_2, hfz21_3⟩ := blk4 BK226.out
       have p228 : 0 ≤ (x3_2 : Int) := of_decide_eq_true Q4
       have q228 : x3_2 < (l0_3.length : Int) := of_decide_eq_true Q4
       obtain ⟨ad228, A228_0, c228_0, A228_1, c228_1, e228, hx228_0, hx228_1, hx228_2, hl228_0, hi228_0, hl228_1, hi228_1⟩ := at_T80 HR0_3.out x3_2 p228 q228
       cases e228
       replace hx228_0 := (HB.out.cell (World.block_lt_of_cell? w _ hx228_0)).trans hx228_0
       replace hx228_1 := (HB.out.cell (World.block_lt_of_cell? w _ hx228_1)).trans hx228_1
       replace hx228_2 := (HB.out.cell (World.block_lt_of_cell? w _ hx228_2)).trans hx228_2
       have HR228_0 := Aside0.mk hi228_0
       have HC228_0 := Aside0.mk hl228_0
       clear hi228_0 hl228_0
       have HR228_1 := Aside0.mk hi228_1
       have HC228_1 := Aside0.mk hl228_1
       clear hi228_1 hl228_1
       replace p228 := eq_true p228
       replace q228 := eq_true q228
       go_upto_region 7 with (first | ((with_reducible refine gate_dst (N := 4) rfl ?_); (try (refine gate_guard Q2 ?_; dsimp only)); refine box_event ?hg (N := 4) ?hd (cs := #[.slice none 0 0, .slice none 0 0, .int .i64 0]) (t := 80) ?hr ?_; (case hd => rfl); (case hg => rfl); (case hr => first | (go_simp; done) | (go_simp; rfl)); intro gb229 hg w22 hbox hb; have n0_ := Aside0.mk (blk_below (g := gb226) (o := .cells #[.int .i64 a0_0, .int .i64 a0_1, .bool a0_2, .slice (some ad228) l0_3.length c0_3] 24 (0, 0)) Q27 hb); have n1_ := Aside0.mk (below_step Q40 hb); have n2_ := Aside0.mk (hbox); have n3_ := Aside0.mk ((by rw [hg]; exact (below_size Q40) : w.heap.size ≤ gb229)); have n4_ := Aside0.mk ((by rw [hg]; exact (below_size Q40) : w.heap.size ≤ gb229)); have n5_ := Aside0.mk ((by rw [hg]; exact Nat.ne_of_lt (blk_lt (g := gb226) (o := .cells #[.int .i64 a0_0, .int .i64 a0_1, .bool a0_2, .slice (some ad228) l0_3.length c0_3] 24 (0, 0)) Q27) : gb226 ≠ gb229)); have n6_ := Aside0.mk ((by rw [hg]; exact Nat.ne_of_gt (blk_lt (g := gb226) (o := .cells #[.int .i64 a0_0, .int .i64 a0_1, .bool a0_2, .slice (some ad228) l0_3.length c0_3] 24 (0, 0)) Q27) : gb229 ≠ gb226)); clear BK226; clear HB; have BK226 := n0_; have HB := n1_; have BK229 := n2_; have GW229 := n3_; have GE229 := n4_; have NB226_229 := n5_; have NB229_226 := n6_; clear n0_ n1_ n2_ n3_ n4_ n5_ n6_; clear hb hbox hg; have hnb23 := NB229_226.out; have hnc23 := NB226_229.out; have hcz24_0 : w22.cell? ⟨gb229, 0, none⟩ = some (.slice none 0 0) := (blk_cell BK229.out 0).trans rfl; have hcz24_1 : w22.cell? ⟨gb229, 1, none⟩ = some (.slice none 0 0) := (blk_cell BK229.out 1).trans rfl; have hcz24_2 : w22.cell? ⟨gb229, 2, none⟩ = some (.int .i64 0) := (blk_cell BK229.out 2).trans rfl; have hfz24_0 := blk_frozen BK229.out 0; have hfz24_1 := blk_frozen BK229.out 1; have hfz24_2 := blk_frozen BK229.out 2))
       (try simp only [Act.put, List.setIfInBounds_toArray, List.set_cons_zero, List.set_cons_succ])
       go_cut [65] (fun v65 wc => ∃ (kq : Nat) (x65_19 : Bool), v65 = .bool x65_19 ∧ Aside0 (mandrelref11_May.j2 kq x3_2 x65_19 a0_0 a0_1 a0_2 l0_3 ((rd_T80 l0_3 x3_2).f0) ((rd_T80 l0_3 x3_2).f1) ((rd_T80 l0_3 x3_2).f2) = some r) ∧ Aside0 (kq ≤ k2) ∧ Aside0 (wc.heap[gb226]? = some (.cells #[.int .i64 a0_0, .int .i64 a0_1, .bool a0_2, (.slice (some ad228) l0_3.length c0_3)] 24 (0, 0))) ∧ Aside0 (wc.heap[gb229]? = some (.cells #[(.slice A228_0 ((rd_T80 l0_3 x3_2).f0).length c228_0), (.slice A228_1 ((rd_T80 l0_3 x3_2).f1).length c228_1), .int .i64 ((rd_T80 l0_3 x3_2).f2)] 80 (0, 0))) ∧ Aside0 (Below w.heap.size w wc))
       case first =>
        have H := HC20.out
        clear HC20
        by_cases c25 : (((rd_T80 l0_3 x3_2).f0).length : Int) = 0
        ·rw [if_pos c25] at H
         have c25b0 : ((((rd_T80 l0_3 x3_2).f0).length : Int) == 0) = true := beq_iff_eq.mpr c25
         have c25b1 : ((((rd_T80 l0_3 x3_2).f0).length : Int) != 0) = false := bne_eq_false_iff_eq.mpr c25
         clear c25
         (first | rw [c25b0] | (simp only [i64_w, i32_w]; rw [c25b0]) | skip)
         have H' := Aside0.mk H
         clear H
         have hnb26 := NB229_226.out
         have hnc26 := NB226_229.out
         have ⟨hcz27_0, hcz27_1, hcz27_2, hfz27_0, hfz27_1, hfz27_2⟩ := blk3 BK229.out
         go_wp2
         go_meet
         case rel => exact ⟨_, (true), Q3, H', ⟨Q93⟩, ⟨Q94⟩, ⟨Q95⟩, ⟨Q25⟩⟩
        rw [if_neg c25] at H
        have c25b0 : ((((rd_T80 l0_3 x3_2).f0).length : Int) == 0) = false := beq_eq_false_iff_ne.mpr c25
        have c25b1 : ((((rd_T80 l0_3 x3_2).f0).length : Int) != 0) = true := bne_iff_ne.mpr c25
        have c25b2 : ¬ (((rd_T80 l0_3 x3_2).f0) = []) := fun h_ => c25 (by rw [h_]; rfl)
        (first | rw [c25b0] | (simp only [i64_w, i32_w]; rw [c25b0]) | skip)
        by_cases c28 : ((rd_T80 l0_3 x3_2).f2) < 0
        ·rw [if_pos c28] at H
         have c28b0 : decide (((rd_T80 l0_3 x3_2).f2) < 0) = true := decide_eq_true c28
         clear c28
         have H' := Aside0.mk H
         clear H
         have hnb29 := NB229_226.out
         have hnc29 := NB226_229.out
         have ⟨hcz30_0, hcz30_1, hcz30_2, hfz30_0, hfz30_1, hfz30_2⟩ := blk3 BK229.out
         go_wp2
         go_meet
         case rel => exact ⟨_, (true), Q3, H', ⟨Q93⟩, ⟨Q94⟩, ⟨Q95⟩, ⟨Q25⟩⟩
        rw [if_neg c28] at H
        have c28b0 : decide (((rd_T80 l0_3 x3_2).f2) < 0) = false := decide_eq_false c28
        clear c28
        have H' := Aside0.mk H
        clear H
        have hnb31 := NB229_226.out
        have hnc31 := NB226_229.out
        have ⟨hcz32_0, hcz32_1, hcz32_2, hfz32_0, hfz32_1, hfz32_2⟩ := blk3 BK229.out
        go_wp2
        go_meet
        case rel => exact ⟨_, (decide (((rd_T80 l0_3 x3_2).f2) > 64)), Q3, H', ⟨Q93⟩, ⟨Q94⟩, ⟨Q95⟩, ⟨Q25⟩⟩
       case rest =>
        clear HC20
        try clear q2
        try clear hx2
        try clear c17
        try clear c18
        try clear c18b0
        try clear c19
        try clear c19b0
        try clear q22
        try clear hx22
        try clear hcz21_0 hcz21_1 hcz21_2 hcz21_3 hfz21_0 hfz21_1 hfz21_2 hfz21_3
        try clear hcz24_0 hcz24_1 hcz24_2 hfz24_0 hfz24_1 hfz24_2
        try clear hx228_0
        try clear hx228_1
        try clear hx228_2
        try clear p228
        try clear q228
        obtain ⟨kq, x65_19, rfl, HA, HJ19, BK226, BK229, HB⟩ := hcut
        cases kq with
        | zero => exact absurd HA.out (by simp [mandrelref11_May.j2])
        | succ kj19 =>
         have H := HA.out
         clear HA
         simp only [mandrelref11_May.j2] at H
         by_cases c33 : x65_19 = true
         ·subst c33
          have H1 : (some false) = some r := Q14
          clear H
          have H := H1
          clear H1
          obtain rfl := Option.some.inj H
          go_wp2
          go_ret
          exact ⟨Q6, Q25⟩
         replace c33 := Bool.eq_false_iff.mpr c33
         subst c33
         have H1 : (mandrelref11_May.l1 kj19 x3_2 0 a0_0 a0_1 a0_2 l0_3 ((rd_T80 l0_3 x3_2).f0) ((rd_T80 l0_3 x3_2).f1) ((rd_T80 l0_3 x3_2).f2)) = some r := by rw [if_neg (show ¬ (false = true) by decide)] at H; exact H
         clear H
         have H := H1
         clear H1
         have H' := Aside0.mk H
         clear H
         go_wp2
         go_loopg [5] kj19 (fun kq v5 w' => ∃ (x5_4 : Int), v5 = .int .i64 x5_4 ∧ Aside0 (mandrelref11_May.l1 kq x3_2 x5_4 a0_0 a0_1 a0_2 l0_3 ((rd_T80 l0_3 x3_2).f0) ((rd_T80 l0_3 x3_2).f1) ((rd_T80 l0_3 x3_2).f2) = some r) ∧ Aside0 (kq ≤ kj19) ∧ Aside0 (w'.heap[gb226]? = some (.cells #[.int .i64 a0_0, .int .i64 a0_1, .bool a0_2, (.slice (some ad228) l0_3.length c0_3)] 24 (0, 0))) ∧ Aside0 (w'.heap[gb229]? = some (.cells #[(.slice A228_0 ((rd_T80 l0_3 x3_2).f0).length c228_0), (.slice A228_1 ((rd_T80 l0_3 x3_2).f1).length c228_1), .int .i64 ((rd_T80 l0_3 x3_2).f2)] 80 (0, 0))) ∧ Aside0 (Below w.heap.size w w'))
         case atStart => exact ⟨(0), Q3, H', ⟨Nat.le_refl _⟩, ⟨Q27⟩, ⟨Q37⟩, ⟨Q25⟩⟩
         case round =>
          clear H'
          try clear q2
          try clear hx2
          try clear c17
          try clear c18
          try clear c18b0
          try clear c19
          try clear c19b0
          try clear q22
          try clear hx22
          try clear c33
          try clear hcz21_0 hcz21_1 hcz21_2 hcz21_3 hfz21_0 hfz21_1 hfz21_2 hfz21_3
          try clear hcz24_0 hcz24_1 hcz24_2 hfz24_0 hfz24_1 hfz24_2
          try clear hx228_0
          try clear hx228_1
          try clear hx228_2
          try clear p228
          try clear q2
          try clear q22
          try clear q228
          obtain ⟨x5_4, rfl, HA, HK4, BK226, BK229, HB⟩ := hrel
          cases gk with
          | zero => exact absurd HA.out (by simp [mandrelref11_May.l1])
          | succ k4 =>
           have H := HA.out
           clear HA
           simp only [mandrelref11_May.l1] at H
           by_cases c34 : x5_4 < (((rd_T80 l0_3 x3_2).f0).length : Int)
           ·rw [if_pos c34] at H
            have c34b0 : decide (x5_4 < (((rd_T80 l0_3 x3_2).f0).length : Int)) = true := decide_eq_true c34
            clear c34
            by_cases c35 : 0 ≤ x5_4
            ·rw [if_pos c35] at H
             have c35b0 : decide (0 ≤ x5_4) = true := decide_eq_true c35
             clear c35
             replace H := Option.bind_eq_some_iff.mp H
             obtain ⟨t231, A360, H⟩ := H
             replace H : (if t231 = true then ((mandrelref11_Ends.f ((rd_T83 ((rd_T80 l0_3 x3_2).f0) x5_4).f0)).bind fun t233 => (if (t233 != (x5_4 == (wrap64 ((((rd_T80 l0_3 x3_2).f0).length : Int) - 1)))) = true then (some false) else (mandrelref11_May.l1 k4 x3_2 (wrap64 (x5_4 + 1)) a0_0 a0_1 a0_2 l0_3 ((rd_T80 l0_3 x3_2).f0) ((rd_T80 l0_3 x3_2).f1) ((rd_T80 l0_3 x3_2).f2)))) else (some false)) = some r := H
             have A36 := Aside0.mk A360
             clear A360
             by_cases c37 : t231 = true
             ·subst c37
              have H1 : ((mandrelref11_Ends.f ((rd_T83 ((rd_T80 l0_3 x3_2).f0) x5_4).f0)).bind fun t233 => (if (t233 != (x5_4 == (wrap64 ((((rd_T80 l0_3 x3_2).f0).length : Int) - 1)))) = true then (some false) else (mandrelref11_May.l1 k4 x3_2 (wrap64 (x5_4 + 1)) a0_0 a0_1 a0_2 l0_3 ((rd_T80 l0_3 x3_2).f0) ((rd_T80 l0_3 x3_2).f1) ((rd_T80 l0_3 x3_2).f2)))) = some r := Q14
              clear H
              have H := H1
              clear H1
              replace H := Option.bind_eq_some_iff.mp H
              obtain ⟨t233, A380, H⟩ := H
              replace H : (if (t233 != (x5_4 == (wrap64 ((((rd_T80 l0_3 x3_2).f0).length : Int) - 1)))) = true then (some false) else (mandrelref11_May.l1 k4 x3_2 (wrap64 (x5_4 + 1)) a0_0 a0_1 a0_2 l0_3 ((rd_T80 l0_3 x3_2).f0) ((rd_T80 l0_3 x3_2).f1) ((rd_T80 l0_3 x3_2).f2))) = some r := H
              have A38 := Aside0.mk A380
              clear A380
              by_cases c39 : (t233 != (x5_4 == (wrap64 ((((rd_T80 l0_3 x3_2).f0).length : Int) - 1)))) = true
              ·rw [if_pos c39] at H
               have c39b0 : (t233 != (x5_4 == (wrap64 ((((rd_T80 l0_3 x3_2).f0).length : Int) - 1)))) = true := c39
               (try (have c39b1 : decide (t233 = (x5_4 == (wrap64 ((((rd_T80 l0_3 x3_2).f0).length : Int) - 1)))) = false := Q62))
               (try (have c39b2 : (t233 == (x5_4 == (wrap64 ((((rd_T80 l0_3 x3_2).f0).length : Int) - 1)))) = false := Q62))
               (try (have c39b3 : ¬ (t233 = (x5_4 == (wrap64 ((((rd_T80 l0_3 x3_2).f0).length : Int) - 1)))) := Q62))
               clear c39
               obtain rfl := Option.some.inj H
               have hnb40 := NB229_226.out
               have hnc40 := NB226_229.out
               have ⟨hcz41_0, hcz41_1, hcz41_2, hfz41_0, hfz41_1, hfz41_2⟩ := blk3 BK229.out
               try go_wp2
               have n0_ := Aside0.mk (blk_drew BK226.out)
               have n1_ := Aside0.mk (blk_drew BK229.out)
               have n2_ := Aside0.mk (below_drew1 HB.out)
               clear BK226
               clear BK229
               clear HB
               have BK226 := n0_
               have BK229 := n1_
               have HB := n2_
               clear n0_ n1_ n2_
               have p230 : 0 ≤ (x5_4 : Int) := of_decide_eq_true Q4
               have q230 : x5_4 < (((rd_T80 l0_3 x3_2).f0).length : Int) := of_decide_eq_true Q4
               obtain ⟨ad230, A230_2, c230_2, e230, hx230_0, hx230_1, hx230_2, hx230_3, hx230_4, hl230_2, hi230_2⟩ := at_T83 HR228_0.out x5_4 p230 q230
               have hw230_4 := hx230_4
               have hw230_3 := hx230_3
               have hw230_2 := hx230_2
               have hw230_1 := hx230_1
               have hw230_0 := hx230_0
               cases e230
               replace hx230_0 := (HB.out.cell (World.block_lt_of_cell? w _ hx230_0)).trans hx230_0
               replace hx230_1 := (HB.out.cell (World.block_lt_of_cell? w _ hx230_1)).trans hx230_1
               replace hx230_2 := (HB.out.cell (World.block_lt_of_cell? w _ hx230_2)).trans hx230_2
               replace hx230_3 := (HB.out.cell (World.block_lt_of_cell? w _ hx230_3)).trans hx230_3
               replace hx230_4 := (HB.out.cell (World.block_lt_of_cell? w _ hx230_4)).trans hx230_4
               have HR230_2 := Aside0.mk hi230_2
               have HC230_2 := Aside0.mk hl230_2
               clear hi230_2 hl230_2
               replace p230 := eq_true p230
               replace q230 := eq_true q230
               have p232 : 0 ≤ (x5_4 : Int) := of_decide_eq_true Q4
               have q232 : x5_4 < (((rd_T80 l0_3 x3_2).f0).length : Int) := of_decide_eq_true Q4
               obtain ⟨ad232, A232_2, c232_2, e232, hx232_0, hx232_1, hx232_2, hx232_3, hx232_4, hl232_2, hi232_2⟩ := at_T83 HR228_0.out x5_4 p232 q232
               have hw232_4 := hx232_4
               have hw232_3 := hx232_3
               have hw232_2 := hx232_2
               have hw232_1 := hx232_1
               have hw232_0 := hx232_0
               obtain rfl : ad230 = ad232 := (by injection e232)
               replace hx232_0 := (HB.out.cell (World.block_lt_of_cell? w _ hx232_0)).trans hx232_0
               replace hx232_1 := (HB.out.cell (World.block_lt_of_cell? w _ hx232_1)).trans hx232_1
               replace hx232_2 := (HB.out.cell (World.block_lt_of_cell? w _ hx232_2)).trans hx232_2
               replace hx232_3 := (HB.out.cell (World.block_lt_of_cell? w _ hx232_3)).trans hx232_3
               replace hx232_4 := (HB.out.cell (World.block_lt_of_cell? w _ hx232_4)).trans hx232_4
               have HR232_2 := Aside0.mk hi232_2
               have HC232_2 := Aside0.mk hl232_2
               clear hi232_2 hl232_2
               replace p232 := eq_true p232
               replace q232 := eq_true q232
               refine start_ (n := 24) (S := fun w' => w'.cell? ⟨gb226, 0, none⟩ = some (.int .i64 a0_0) ∧ w'.cell? ⟨gb226, 1, none⟩ = some (.int .i64 a0_1) ∧ w'.cell? ⟨gb226, 2, none⟩ = some (.bool a0_2) ∧ w'.cell? ⟨gb226, 3, none⟩ = some (.slice (some ad228) l0_3.length c0_3) ∧ w'.cell? ⟨gb229, 0, none⟩ = some (.slice (some ad230) ((rd_T80 l0_3 x3_2).f0).length c228_0) ∧ w'.cell? ⟨gb229, 1, none⟩ = some (.slice A228_1 ((rd_T80 l0_3 x3_2).f1).length c228_1) ∧ w'.cell? ⟨gb229, 2, none⟩ = some (.int .i64 ((rd_T80 l0_3 x3_2).f2)) ∧ w'.cell? (ad230.add ((x5_4).toNat * 5)) = some (.int .u8 ((rd_T83 ((rd_T80 l0_3 x3_2).f0) x5_4).f0)) ∧ w'.cell? ⟨(ad230.add ((x5_4).toNat * 5)).block, (ad230.add ((x5_4).toNat * 5)).off + 1, none⟩ = some (.int .i64 ((rd_T83 ((rd_T80 l0_3 x3_2).f0) x5_4).f1)) ∧ w'.cell? ⟨(ad230.add ((x5_4).toNat * 5)).block, (ad230.add ((x5_4).toNat * 5)).off + 2, none⟩ = some (.slice A230_2 ((rd_T83 ((rd_T80 l0_3 x3_2).f0) x5_4).f2).length c230_2) ∧ w'.cell? ⟨(ad230.add ((x5_4).toNat * 5)).block, (ad230.add ((x5_4).toNat * 5)).off + 3, none⟩ = some (.int .i64 ((rd_T83 ((rd_T80 l0_3 x3_2).f0) x5_4).f3)) ∧ w'.cell? ⟨(ad230.add ((x5_4).toNat * 5)).block, (ad230.add ((x5_4).toNat * 5)).off + 4, none⟩ = some (.int .u32 ((rd_T83 ((rd_T80 l0_3 x3_2).f0) x5_4).f4)) ∧ w'.cell? (ad230.add ((x5_4).toNat * 5)) = some (.int .u8 ((rd_T83 ((rd_T80 l0_3 x3_2).f0) x5_4).f0)) ∧ w'.cell? ⟨(ad230.add ((x5_4).toNat * 5)).block, (ad230.add ((x5_4).toNat * 5)).off + 1, none⟩ = some (.int .i64 ((rd_T83 ((rd_T80 l0_3 x3_2).f0) x5_4).f1)) ∧ w'.cell? ⟨(ad230.add ((x5_4).toNat * 5)).block, (ad230.add ((x5_4).toNat * 5)).off + 2, none⟩ = some (.slice A232_2 ((rd_T83 ((rd_T80 l0_3 x3_2).f0) x5_4).f2).length c232_2) ∧ w'.cell? ⟨(ad230.add ((x5_4).toNat * 5)).block, (ad230.add ((x5_4).toNat * 5)).off + 3, none⟩ = some (.int .i64 ((rd_T83 ((rd_T80 l0_3 x3_2).f0) x5_4).f3)) ∧ w'.cell? ⟨(ad230.add ((x5_4).toNat * 5)).block, (ad230.add ((x5_4).toNat * 5)).off + 4, none⟩ = some (.int .u32 ((rd_T83 ((rd_T80 l0_3 x3_2).f0) x5_4).f4))) (ds := []) #[false, false, false, false, false, false, false, false, false, false, false, false, false, false, false, false, false, false, false, false, false, false, false, false] Q0 rfl rfl ⟨(blk_cell BK226.out 0).trans rfl, (blk_cell BK226.out 1).trans rfl, (blk_cell BK226.out 2).trans rfl, (blk_cell BK226.out 3).trans rfl, (blk_cell BK229.out 0).trans rfl, (blk_cell BK229.out 1).trans rfl, (blk_cell BK229.out 2).trans rfl, ((HB.out.cell (World.block_lt_of_cell? w _ hw230_0)).trans hw230_0), ((HB.out.cell (World.block_lt_of_cell? w _ hw230_1)).trans hw230_1), ((HB.out.cell (World.block_lt_of_cell? w _ hw230_2)).trans hw230_2), ((HB.out.cell (World.block_lt_of_cell? w _ hw230_3)).trans hw230_3), ((HB.out.cell (World.block_lt_of_cell? w _ hw230_4)).trans hw230_4), ((HB.out.cell (World.block_lt_of_cell? w _ hw232_0)).trans hw232_0), ((HB.out.cell (World.block_lt_of_cell? w _ hw232_1)).trans hw232_1), ((HB.out.cell (World.block_lt_of_cell? w _ hw232_2)).trans hw232_2), ((HB.out.cell (World.block_lt_of_cell? w _ hw232_3)).trans hw232_3), ((HB.out.cell (World.block_lt_of_cell? w _ hw232_4)).trans hw232_4)⟩ (fun hHeld => ?_); refine with_tabW mandrelref11_May.tab12 mandrelref11_May.bits12 (fun HT_ HW_ => ?_)
               generalize wr.drew = w42 at BK226 BK229 HB HR230_2 HR232_2 hx230_0 hx230_1 hx230_2 hx230_3 hx230_4 hx232_0 hx232_1 hx232_2 hx232_3 hx232_4 hHeld ⊢
               refine pure_ (i := 1) (N := some 74) (bv 24 2) rfl rfl Q152 (fun _ _ _ h => h) Q153 Q5 ?_
               refine pure_ (i := 3) (N := some 76) (bv 24 10) rfl rfl Q152 (fun _ _ _ h => h) Q153 Q5 ?_
               refine take_ (i := 0) (N := some 73) (bv 24 11) rfl rfl Q156 (fun _ _ _ h => h) Q160 hHeld Q5 ?_
               refine take_ (i := 2) (N := some 75) (bv 24 15) rfl rfl Q156 (fun _ _ _ h => h) Q160 hHeld Q5 ?_
               refine pure_ (i := 4) (N := some 77) (bv 24 31) rfl rfl Q152 (fun _ _ _ h => h) Q153 Q5 ?_
               refine take_ (i := 5) (N := some 78) (bv 24 63) rfl rfl Q156 (fun _ _ _ h => h) Q160 hHeld Q5 ?_
               refine one_ (i := 6) (N := some 79) #[true, true, true, true, true, true, true, false, false, false, false, false, false, false, false, false, false, false, false, false, false, false, false, false] rfl rfl (one_of HT_.out Q0) Q12 (fun K hK => ?_)
               refine goes_ Tryz.func34 Q0 rfl #[.agg #[.int .i64 a0_0, .int .i64 a0_1, .bool a0_2, .slice (some ad228) l0_3.length c0_3], .agg #[.int .u8 ((rd_T83 ((rd_T80 l0_3 x3_2).f0) x5_4).f0), .int .i64 ((rd_T83 ((rd_T80 l0_3 x3_2).f0) x5_4).f1), .slice A230_2 ((rd_T83 ((rd_T80 l0_3 x3_2).f0) x5_4).f2).length c230_2, .int .i64 ((rd_T83 ((rd_T80 l0_3 x3_2).f0) x5_4).f3), .int .u32 ((rd_T83 ((rd_T80 l0_3 x3_2).f0) x5_4).f4)]] Q2 rfl rfl Q9 ?_
               with_reducible refine (mandrelref11_ins.calls k4 a0_0 a0_1 a0_2 _ _ l0_3 ((rd_T83 ((rd_T80 l0_3 x3_2).f0) x5_4).f0) ((rd_T83 ((rd_T80 l0_3 x3_2).f0) x5_4).f1) _ _ ((rd_T83 ((rd_T80 l0_3 x3_2).f0) x5_4).f2) ((rd_T83 ((rd_T80 l0_3 x3_2).f0) x5_4).f3) ((rd_T83 ((rd_T80 l0_3 x3_2).f0) x5_4).f4) true _ ?side1 ?side2 ?side3 ?side4 ?side5 A36.out).mono ?_
               (case side1 => repeat (first | exact (Kd.C_below HR0_3.out HB.out) | (with_reducible refine Kd.C_alloc ?_ _) | (with_reducible refine Kd.C_drewN ?_ _) | (with_reducible refine Kd.C_drew ?_)))
               (case side2 => exact HC0_3.out)
               (case side3 => repeat (first | exact (Kd.C_below HR230_2.out HB.out) | (with_reducible refine Kd.C_alloc ?_ _) | (with_reducible refine Kd.C_drewN ?_ _) | (with_reducible refine Kd.C_drew ?_)))
               (case side4 => exact HC230_2.out)
               (case side5 => exact GG.nil _)
               rintro e w43 ⟨rfl, hb⟩
               refine ⟨_, rfl, ?_⟩
               have n0_ := Aside0.mk (blk_below (g := gb226) (o := .cells #[.int .i64 a0_0, .int .i64 a0_1, .bool a0_2, .slice (some ad228) l0_3.length c0_3] 24 (0, 0)) Q27 hb)
               have n1_ := Aside0.mk (blk_below (g := gb229) (o := .cells #[.slice (some ad230) ((rd_T80 l0_3 x3_2).f0).length c228_0, .slice A228_1 ((rd_T80 l0_3 x3_2).f1).length c228_1, .int .i64 ((rd_T80 l0_3 x3_2).f2)] 80 (0, 0)) Q37 hb)
               have n2_ := Aside0.mk (below_step Q25 hb)
               clear BK226
               clear BK229
               clear HB
               have BK226 := n0_
               have BK229 := n1_
               have HB := n2_
               clear n0_ n1_ n2_
               (try clear hb)
               (try clear hb2)
               (try clear hk)
               (try clear hi)
               refine hK.out _ _ ⟨(blk_cell BK226.out 0).trans rfl, (blk_cell BK226.out 1).trans rfl, (blk_cell BK226.out 2).trans rfl, (blk_cell BK226.out 3).trans rfl, (blk_cell BK229.out 0).trans rfl, (blk_cell BK229.out 1).trans rfl, (blk_cell BK229.out 2).trans rfl, ((HB.out.cell (World.block_lt_of_cell? w _ hw230_0)).trans hw230_0), ((HB.out.cell (World.block_lt_of_cell? w _ hw230_1)).trans hw230_1), ((HB.out.cell (World.block_lt_of_cell? w _ hw230_2)).trans hw230_2), ((HB.out.cell (World.block_lt_of_cell? w _ hw230_3)).trans hw230_3), ((HB.out.cell (World.block_lt_of_cell? w _ hw230_4)).trans hw230_4), ((HB.out.cell (World.block_lt_of_cell? w _ hw232_0)).trans hw232_0), ((HB.out.cell (World.block_lt_of_cell? w _ hw232_1)).trans hw232_1), ((HB.out.cell (World.block_lt_of_cell? w _ hw232_2)).trans hw232_2), ((HB.out.cell (World.block_lt_of_cell? w _ hw232_3)).trans hw232_3), ((HB.out.cell (World.block_lt_of_cell? w _ hw232_4)).trans hw232_4)⟩ (fun hHeld => ?_)
               clear hK K
               refine norm_ (a' := ?_) ?_ ?_
               rotate_left
               ·show Act.put _ (some 79) _ = _
                simp only [Act.put, List.setIfInBounds_toArray, List.set_cons_zero, List.set_cons_succ, i64_w, i32_w]
                rfl
               refine pure_ (i := 7) (N := some 80) (bv 24 255) rfl rfl Q152 (fun _ _ _ h => h) Q153 Q5 ?_
               refine pure_ (i := 8) (N := some 81) (bv 24 511) rfl rfl Q152 (fun _ _ _ h => h) Q153 Q5 ?_
               refine pure_ (i := 9) (N := some 82) (bv 24 1023) rfl rfl Q152 (fun _ _ _ h => h) Q153 Q5 ?_
               refine pure_ (i := 11) (N := some 84) (bv 24 3071) rfl rfl Q152 (fun _ _ _ h => h) Q153 Q5 ?_
               refine pure_ (i := 16) (N := some 89) (bv 24 68607) rfl rfl Q152 (fun _ _ _ h => h) Q153 Q5 ?_
               refine pure_ (i := 17) (N := some 90) (bv 24 199679) rfl rfl Q152 (fun _ _ _ h => h) Q153 Q5 ?_
               refine take_ (i := 10) (N := some 83) (bv 24 200703) rfl rfl Q156 (fun _ _ _ h => h) Q160 hHeld Q5 ?_
               refine pure_ (i := 12) (N := some 85) (bv 24 204799) rfl rfl Q152 (fun _ _ _ h => h) Q153 Q5 ?_
               refine pure_ (i := 13) (N := some 86) (bv 24 212991) rfl rfl Q152 (fun _ _ _ h => h) Q153 Q5 ?_
               refine take_ (i := 14) (N := some 87) (bv 24 229375) rfl rfl Q156 (fun _ _ _ h => h) Q160 hHeld Q5 ?_
               refine take_ (i := 18) (N := some 91) (bv 24 491519) rfl rfl Q156 (fun _ _ _ h => h) Q160 hHeld Q5 ?_
               refine pure_ (i := 19) (N := some 92) (bv 24 1015807) rfl rfl Q152 (fun _ _ _ h => h) Q153 Q5 ?_
               refine pure_ (i := 20) (N := some 93) (bv 24 2064383) rfl rfl Q152 (fun _ _ _ h => h) Q153 Q5 ?_
               refine pure_ (i := 21) (N := some 94) (bv 24 4161535) rfl rfl Q152 (fun _ _ _ h => h) Q153 Q5 ?_
               refine one_ (i := 15) (N := some 88) #[true, true, true, true, true, true, true, true, true, true, true, true, true, true, true, true, true, true, true, true, true, true, false, false] rfl rfl (one_of HT_.out Q0) Q12 (fun K hK => ?_)
               refine goes_ Tryz.func35 Q0 rfl #[.int .u8 ((rd_T83 ((rd_T80 l0_3 x3_2).f0) x5_4).f0)] Q2 rfl rfl Q9 ?_
               with_reducible refine (mandrelref11_Ends.calls ((rd_T83 ((rd_T80 l0_3 x3_2).f0) x5_4).f0) t233 _ ?side1 A38.out).mono ?_
               (case side1 => exact GG.nil _)
               rintro e w' ⟨rfl, ⟨nd, rfl⟩⟩
               refine ⟨_, rfl, ?_⟩
               refine hK.out _ _ ⟨(blk_cell BK226.out 0).trans rfl, (blk_cell BK226.out 1).trans rfl, (blk_cell BK226.out 2).trans rfl, (blk_cell BK226.out 3).trans rfl, (blk_cell BK229.out 0).trans rfl, (blk_cell BK229.out 1).trans rfl, (blk_cell BK229.out 2).trans rfl, ((HB.out.cell (World.block_lt_of_cell? w _ hw230_0)).trans hw230_0), ((HB.out.cell (World.block_lt_of_cell? w _ hw230_1)).trans hw230_1), ((HB.out.cell (World.block_lt_of_cell? w _ hw230_2)).trans hw230_2), ((HB.out.cell (World.block_lt_of_cell? w _ hw230_3)).trans hw230_3), ((HB.out.cell (World.block_lt_of_cell? w _ hw230_4)).trans hw230_4), ((HB.out.cell (World.block_lt_of_cell? w _ hw232_0)).trans hw232_0), ((HB.out.cell (World.block_lt_of_cell? w _ hw232_1)).trans hw232_1), ((HB.out.cell (World.block_lt_of_cell? w _ hw232_2)).trans hw232_2), ((HB.out.cell (World.block_lt_of_cell? w _ hw232_3)).trans hw232_3), ((HB.out.cell (World.block_lt_of_cell? w _ hw232_4)).trans hw232_4)⟩ (fun hHeld => ?_)
               clear hK K
               refine norm_ (a' := ?_) ?_ ?_
               rotate_left
               ·show Act.put _ (some 88) _ = _
                simp only [Act.put, List.setIfInBounds_toArray, List.set_cons_zero, List.set_cons_succ, i64_w, i32_w]
                rfl
               refine pure_ (i := 22) (N := some 95) (bv 24 8388607) rfl rfl Q152 (fun _ _ _ h => h) Q153 Q5 ?_
               refine pure_ (i := 23) (N := some 96) (bv 24 16777215) rfl rfl Q152 (fun _ _ _ h => h) Q153 Q5 ?_
               refine done_ (done_of HT_.out Q0) ?_
               try go_wp2
               go_ret
               exact ⟨Q6, Q25⟩
              rw [if_neg c39] at H
              have c39b0 : (t233 != (x5_4 == (wrap64 ((((rd_T80 l0_3 x3_2).f0).length : Int) - 1)))) = false := Q62
              (try (have c39b1 : decide (t233 = (x5_4 == (wrap64 ((((rd_T80 l0_3 x3_2).f0).length : Int) - 1)))) = true := Q62))
              (try (have c39b2 : (t233 == (x5_4 == (wrap64 ((((rd_T80 l0_3 x3_2).f0).length : Int) - 1)))) = true := Q62))
              clear c39
              have H' := Aside0.mk H
              clear H
              have hnb44 := NB229_226.out
              have hnc44 := NB226_229.out
              have ⟨hcz45_0, hcz45_1, hcz45_2, hfz45_0, hfz45_1, hfz45_2⟩ := blk3 BK229.out
              try go_wp2
              have n0_ := Aside0.mk (blk_drew BK226.out)
              have n1_ := Aside0.mk (blk_drew BK229.out)
              have n2_ := Aside0.mk (below_drew1 HB.out)
              clear BK226
              clear BK229
              clear HB
              have BK226 := n0_
              have BK229 := n1_
              have HB := n2_
              clear n0_ n1_ n2_
              have p230 : 0 ≤ (x5_4 : Int) := of_decide_eq_true Q4
              have q230 : x5_4 < (((rd_T80 l0_3 x3_2).f0).length : Int) := of_decide_eq_true Q4
              obtain ⟨ad230, A230_2, c230_2, e230, hx230_0, hx230_1, hx230_2, hx230_3, hx230_4, hl230_2, hi230_2⟩ := at_T83 HR228_0.out x5_4 p230 q230
              have hw230_4 := hx230_4
              have hw230_3 := hx230_3
              have hw230_2 := hx230_2
              have hw230_1 := hx230_1
              have hw230_0 := hx230_0
              cases e230
              replace hx230_0 := (HB.out.cell (World.block_lt_of_cell? w _ hx230_0)).trans hx230_0
              replace hx230_1 := (HB.out.cell (World.block_lt_of_cell? w _ hx230_1)).trans hx230_1
              replace hx230_2 := (HB.out.cell (World.block_lt_of_cell? w _ hx230_2)).trans hx230_2
              replace hx230_3 := (HB.out.cell (World.block_lt_of_cell? w _ hx230_3)).trans hx230_3
              replace hx230_4 := (HB.out.cell (World.block_lt_of_cell? w _ hx230_4)).trans hx230_4
              have HR230_2 := Aside0.mk hi230_2
              have HC230_2 := Aside0.mk hl230_2
              clear hi230_2 hl230_2
              replace p230 := eq_true p230
              replace q230 := eq_true q230
              have p232 : 0 ≤ (x5_4 : Int) := of_decide_eq_true Q4
              have q232 : x5_4 < (((rd_T80 l0_3 x3_2).f0).length : Int) := of_decide_eq_true Q4
              obtain ⟨ad232, A232_2, c232_2, e232, hx232_0, hx232_1, hx232_2, hx232_3, hx232_4, hl232_2, hi232_2⟩ := at_T83 HR228_0.out x5_4 p232 q232
              have hw232_4 := hx232_4
              have hw232_3 := hx232_3
              have hw232_2 := hx232_2
              have hw232_1 := hx232_1
              have hw232_0 := hx232_0
              obtain rfl : ad230 = ad232 := (by injection e232)
              replace hx232_0 := (HB.out.cell (World.block_lt_of_cell? w _ hx232_0)).trans hx232_0
              replace hx232_1 := (HB.out.cell (World.block_lt_of_cell? w _ hx232_1)).trans hx232_1
              replace hx232_2 := (HB.out.cell (World.block_lt_of_cell? w _ hx232_2)).trans hx232_2
              replace hx232_3 := (HB.out.cell (World.block_lt_of_cell? w _ hx232_3)).trans hx232_3
              replace hx232_4 := (HB.out.cell (World.block_lt_of_cell? w _ hx232_4)).trans hx232_4
              have HR232_2 := Aside0.mk hi232_2
              have HC232_2 := Aside0.mk hl232_2
              clear hi232_2 hl232_2
              replace p232 := eq_true p232
              replace q232 := eq_true q232
              refine start_ (n := 24) (S := fun w' => w'.cell? ⟨gb226, 0, none⟩ = some (.int .i64 a0_0) ∧ w'.cell? ⟨gb226, 1, none⟩ = some (.int .i64 a0_1) ∧ w'.cell? ⟨gb226, 2, none⟩ = some (.bool a0_2) ∧ w'.cell? ⟨gb226, 3, none⟩ = some (.slice (some ad228) l0_3.length c0_3) ∧ w'.cell? ⟨gb229, 0, none⟩ = some (.slice (some ad230) ((rd_T80 l0_3 x3_2).f0).length c228_0) ∧ w'.cell? ⟨gb229, 1, none⟩ = some (.slice A228_1 ((rd_T80 l0_3 x3_2).f1).length c228_1) ∧ w'.cell? ⟨gb229, 2, none⟩ = some (.int .i64 ((rd_T80 l0_3 x3_2).f2)) ∧ w'.cell? (ad230.add ((x5_4).toNat * 5)) = some (.int .u8 ((rd_T83 ((rd_T80 l0_3 x3_2).f0) x5_4).f0)) ∧ w'.cell? ⟨(ad230.add ((x5_4).toNat * 5)).block, (ad230.add ((x5_4).toNat * 5)).off + 1, none⟩ = some (.int .i64 ((rd_T83 ((rd_T80 l0_3 x3_2).f0) x5_4).f1)) ∧ w'.cell? ⟨(ad230.add ((x5_4).toNat * 5)).block, (ad230.add ((x5_4).toNat * 5)).off + 2, none⟩ = some (.slice A230_2 ((rd_T83 ((rd_T80 l0_3 x3_2).f0) x5_4).f2).length c230_2) ∧ w'.cell? ⟨(ad230.add ((x5_4).toNat * 5)).block, (ad230.add ((x5_4).toNat * 5)).off + 3, none⟩ = some (.int .i64 ((rd_T83 ((rd_T80 l0_3 x3_2).f0) x5_4).f3)) ∧ w'.cell? ⟨(ad230.add ((x5_4).toNat * 5)).block, (ad230.add ((x5_4).toNat * 5)).off + 4, none⟩ = some (.int .u32 ((rd_T83 ((rd_T80 l0_3 x3_2).f0) x5_4).f4)) ∧ w'.cell? (ad230.add ((x5_4).toNat * 5)) = some (.int .u8 ((rd_T83 ((rd_T80 l0_3 x3_2).f0) x5_4).f0)) ∧ w'.cell? ⟨(ad230.add ((x5_4).toNat * 5)).block, (ad230.add ((x5_4).toNat * 5)).off + 1, none⟩ = some (.int .i64 ((rd_T83 ((rd_T80 l0_3 x3_2).f0) x5_4).f1)) ∧ w'.cell? ⟨(ad230.add ((x5_4).toNat * 5)).block, (ad230.add ((x5_4).toNat * 5)).off + 2, none⟩ = some (.slice A232_2 ((rd_T83 ((rd_T80 l0_3 x3_2).f0) x5_4).f2).length c232_2) ∧ w'.cell? ⟨(ad230.add ((x5_4).toNat * 5)).block, (ad230.add ((x5_4).toNat * 5)).off + 3, none⟩ = some (.int .i64 ((rd_T83 ((rd_T80 l0_3 x3_2).f0) x5_4).f3)) ∧ w'.cell? ⟨(ad230.add ((x5_4).toNat * 5)).block, (ad230.add ((x5_4).toNat * 5)).off + 4, none⟩ = some (.int .u32 ((rd_T83 ((rd_T80 l0_3 x3_2).f0) x5_4).f4))) (ds := []) #[false, false, false, false, false, false, false, false, false, false, false, false, false, false, false, false, false, false, false, false, false, false, false, false] Q0 rfl rfl ⟨(blk_cell BK226.out 0).trans rfl, (blk_cell BK226.out 1).trans rfl, (blk_cell BK226.out 2).trans rfl, (blk_cell BK226.out 3).trans rfl, (blk_cell BK229.out 0).trans rfl, (blk_cell BK229.out 1).trans rfl, (blk_cell BK229.out 2).trans rfl, ((HB.out.cell (World.block_lt_of_cell? w _ hw230_0)).trans hw230_0), ((HB.out.cell (World.block_lt_of_cell? w _ hw230_1)).trans hw230_1), ((HB.out.cell (World.block_lt_of_cell? w _ hw230_2)).trans hw230_2), ((HB.out.cell (World.block_lt_of_cell? w _ hw230_3)).trans hw230_3), ((HB.out.cell (World.block_lt_of_cell? w _ hw230_4)).trans hw230_4), ((HB.out.cell (World.block_lt_of_cell? w _ hw232_0)).trans hw232_0), ((HB.out.cell (World.block_lt_of_cell? w _ hw232_1)).trans hw232_1), ((HB.out.cell (World.block_lt_of_cell? w _ hw232_2)).trans hw232_2), ((HB.out.cell (World.block_lt_of_cell? w _ hw232_3)).trans hw232_3), ((HB.out.cell (World.block_lt_of_cell? w _ hw232_4)).trans hw232_4)⟩ (fun hHeld => ?_); refine with_tabW mandrelref11_May.tab12 mandrelref11_May.bits12 (fun HT_ HW_ => ?_)
              generalize wr.drew = w46 at BK226 BK229 HB HR230_2 HR232_2 hx230_0 hx230_1 hx230_2 hx230_3 hx230_4 hx232_0 hx232_1 hx232_2 hx232_3 hx232_4 hHeld ⊢
              refine pure_ (i := 1) (N := some 74) (bv 24 2) rfl rfl Q152 (fun _ _ _ h => h) Q153 Q5 ?_
              refine pure_ (i := 3) (N := some 76) (bv 24 10) rfl rfl Q152 (fun _ _ _ h => h) Q153 Q5 ?_
              refine take_ (i := 0) (N := some 73) (bv 24 11) rfl rfl Q156 (fun _ _ _ h => h) Q160 hHeld Q5 ?_
              refine take_ (i := 2) (N := some 75) (bv 24 15) rfl rfl Q156 (fun _ _ _ h => h) Q160 hHeld Q5 ?_
              refine pure_ (i := 4) (N := some 77) (bv 24 31) rfl rfl Q152 (fun _ _ _ h => h) Q153 Q5 ?_
              refine take_ (i := 5) (N := some 78) (bv 24 63) rfl rfl Q156 (fun _ _ _ h => h) Q160 hHeld Q5 ?_
              refine one_ (i := 6) (N := some 79) #[true, true, true, true, true, true, true, false, false, false, false, false, false, false, false, false, false, false, false, false, false, false, false, false] rfl rfl (one_of HT_.out Q0) Q12 (fun K hK => ?_)
              refine goes_ Tryz.func34 Q0 rfl #[.agg #[.int .i64 a0_0, .int .i64 a0_1, .bool a0_2, .slice (some ad228) l0_3.length c0_3], .agg #[.int .u8 ((rd_T83 ((rd_T80 l0_3 x3_2).f0) x5_4).f0), .int .i64 ((rd_T83 ((rd_T80 l0_3 x3_2).f0) x5_4).f1), .slice A230_2 ((rd_T83 ((rd_T80 l0_3 x3_2).f0) x5_4).f2).length c230_2, .int .i64 ((rd_T83 ((rd_T80 l0_3 x3_2).f0) x5_4).f3), .int .u32 ((rd_T83 ((rd_T80 l0_3 x3_2).f0) x5_4).f4)]] Q2 rfl rfl Q9 ?_
              with_reducible refine (mandrelref11_ins.calls k4 a0_0 a0_1 a0_2 _ _ l0_3 ((rd_T83 ((rd_T80 l0_3 x3_2).f0) x5_4).f0) ((rd_T83 ((rd_T80 l0_3 x3_2).f0) x5_4).f1) _ _ ((rd_T83 ((rd_T80 l0_3 x3_2).f0) x5_4).f2) ((rd_T83 ((rd_T80 l0_3 x3_2).f0) x5_4).f3) ((rd_T83 ((rd_T80 l0_3 x3_2).f0) x5_4).f4) true _ ?side1 ?side2 ?side3 ?side4 ?side5 A36.out).mono ?_
              (case side1 => repeat (first | exact (Kd.C_below HR0_3.out HB.out) | (with_reducible refine Kd.C_alloc ?_ _) | (with_reducible refine Kd.C_drewN ?_ _) | (with_reducible refine Kd.C_drew ?_)))
              (case side2 => exact HC0_3.out)
              (case side3 => repeat (first | exact (Kd.C_below HR230_2.out HB.out) | (with_reducible refine Kd.C_alloc ?_ _) | (with_reducible refine Kd.C_drewN ?_ _) | (with_reducible refine Kd.C_drew ?_)))
              (case side4 => exact HC230_2.out)
              (case side5 => exact GG.nil _)
              rintro e w47 ⟨rfl, hb⟩
              refine ⟨_, rfl, ?_⟩
              have n0_ := Aside0.mk (blk_below (g := gb226) (o := .cells #[.int .i64 a0_0, .int .i64 a0_1, .bool a0_2, .slice (some ad228) l0_3.length c0_3] 24 (0, 0)) Q27 hb)
              have n1_ := Aside0.mk (blk_below (g := gb229) (o := .cells #[.slice (some ad230) ((rd_T80 l0_3 x3_2).f0).length c228_0, .slice A228_1 ((rd_T80 l0_3 x3_2).f1).length c228_1, .int .i64 ((rd_T80 l0_3 x3_2).f2)] 80 (0, 0)) Q37 hb)
              have n2_ := Aside0.mk (below_step Q25 hb)
              clear BK226
              clear BK229
              clear HB
              have BK226 := n0_
              have BK229 := n1_
              have HB := n2_
              clear n0_ n1_ n2_
              (try clear hb)
              (try clear hb2)
              (try clear hk)
              (try clear hi)
              refine hK.out _ _ ⟨(blk_cell BK226.out 0).trans rfl, (blk_cell BK226.out 1).trans rfl, (blk_cell BK226.out 2).trans rfl, (blk_cell BK226.out 3).trans rfl, (blk_cell BK229.out 0).trans rfl, (blk_cell BK229.out 1).trans rfl, (blk_cell BK229.out 2).trans rfl, ((HB.out.cell (World.block_lt_of_cell? w _ hw230_0)).trans hw230_0), ((HB.out.cell (World.block_lt_of_cell? w _ hw230_1)).trans hw230_1), ((HB.out.cell (World.block_lt_of_cell? w _ hw230_2)).trans hw230_2), ((HB.out.cell (World.block_lt_of_cell? w _ hw230_3)).trans hw230_3), ((HB.out.cell (World.block_lt_of_cell? w _ hw230_4)).trans hw230_4), ((HB.out.cell (World.block_lt_of_cell? w _ hw232_0)).trans hw232_0), ((HB.out.cell (World.block_lt_of_cell? w _ hw232_1)).trans hw232_1), ((HB.out.cell (World.block_lt_of_cell? w _ hw232_2)).trans hw232_2), ((HB.out.cell (World.block_lt_of_cell? w _ hw232_3)).trans hw232_3), ((HB.out.cell (World.block_lt_of_cell? w _ hw232_4)).trans hw232_4)⟩ (fun hHeld => ?_)
              clear hK K
              refine norm_ (a' := ?_) ?_ ?_
              rotate_left
              ·show Act.put _ (some 79) _ = _
               simp only [Act.put, List.setIfInBounds_toArray, List.set_cons_zero, List.set_cons_succ, i64_w, i32_w]
               rfl
              refine pure_ (i := 7) (N := some 80) (bv 24 255) rfl rfl Q152 (fun _ _ _ h => h) Q153 Q5 ?_
              refine pure_ (i := 8) (N := some 81) (bv 24 511) rfl rfl Q152 (fun _ _ _ h => h) Q153 Q5 ?_
              refine pure_ (i := 9) (N := some 82) (bv 24 1023) rfl rfl Q152 (fun _ _ _ h => h) Q153 Q5 ?_
              refine pure_ (i := 11) (N := some 84) (bv 24 3071) rfl rfl Q152 (fun _ _ _ h => h) Q153 Q5 ?_
              refine pure_ (i := 16) (N := some 89) (bv 24 68607) rfl rfl Q152 (fun _ _ _ h => h) Q153 Q5 ?_
              refine pure_ (i := 17) (N := some 90) (bv 24 199679) rfl rfl Q152 (fun _ _ _ h => h) Q153 Q5 ?_
              refine take_ (i := 10) (N := some 83) (bv 24 200703) rfl rfl Q156 (fun _ _ _ h => h) Q160 hHeld Q5 ?_
              refine pure_ (i := 12) (N := some 85) (bv 24 204799) rfl rfl Q152 (fun _ _ _ h => h) Q153 Q5 ?_
              refine pure_ (i := 13) (N := some 86) (bv 24 212991) rfl rfl Q152 (fun _ _ _ h => h) Q153 Q5 ?_
              refine take_ (i := 14) (N := some 87) (bv 24 229375) rfl rfl Q156 (fun _ _ _ h => h) Q160 hHeld Q5 ?_
              refine take_ (i := 18) (N := some 91) (bv 24 491519) rfl rfl Q156 (fun _ _ _ h => h) Q160 hHeld Q5 ?_
              refine pure_ (i := 19) (N := some 92) (bv 24 1015807) rfl rfl Q152 (fun _ _ _ h => h) Q153 Q5 ?_
              refine pure_ (i := 20) (N := some 93) (bv 24 2064383) rfl rfl Q152 (fun _ _ _ h => h) Q153 Q5 ?_
              refine pure_ (i := 21) (N := some 94) (bv 24 4161535) rfl rfl Q152 (fun _ _ _ h => h) Q153 Q5 ?_
              refine one_ (i := 15) (N := some 88) #[true, true, true, true, true, true, true, true, true, true, true, true, true, true, true, true, true, true, true, true, true, true, false, false] rfl rfl (one_of HT_.out Q0) Q12 (fun K hK => ?_)
              refine goes_ Tryz.func35 Q0 rfl #[.int .u8 ((rd_T83 ((rd_T80 l0_3 x3_2).f0) x5_4).f0)] Q2 rfl rfl Q9 ?_
              with_reducible refine (mandrelref11_Ends.calls ((rd_T83 ((rd_T80 l0_3 x3_2).f0) x5_4).f0) t233 _ ?side1 A38.out).mono ?_
              (case side1 => exact GG.nil _)
              rintro e w' ⟨rfl, ⟨nd, rfl⟩⟩
              refine ⟨_, rfl, ?_⟩
              refine hK.out _ _ ⟨(blk_cell BK226.out 0).trans rfl, (blk_cell BK226.out 1).trans rfl, (blk_cell BK226.out 2).trans rfl, (blk_cell BK226.out 3).trans rfl, (blk_cell BK229.out 0).trans rfl, (blk_cell BK229.out 1).trans rfl, (blk_cell BK229.out 2).trans rfl, ((HB.out.cell (World.block_lt_of_cell? w _ hw230_0)).trans hw230_0), ((HB.out.cell (World.block_lt_of_cell? w _ hw230_1)).trans hw230_1), ((HB.out.cell (World.block_lt_of_cell? w _ hw230_2)).trans hw230_2), ((HB.out.cell (World.block_lt_of_cell? w _ hw230_3)).trans hw230_3), ((HB.out.cell (World.block_lt_of_cell? w _ hw230_4)).trans hw230_4), ((HB.out.cell (World.block_lt_of_cell? w _ hw232_0)).trans hw232_0), ((HB.out.cell (World.block_lt_of_cell? w _ hw232_1)).trans hw232_1), ((HB.out.cell (World.block_lt_of_cell? w _ hw232_2)).trans hw232_2), ((HB.out.cell (World.block_lt_of_cell? w _ hw232_3)).trans hw232_3), ((HB.out.cell (World.block_lt_of_cell? w _ hw232_4)).trans hw232_4)⟩ (fun hHeld => ?_)
              clear hK K
              refine norm_ (a' := ?_) ?_ ?_
              rotate_left
              ·show Act.put _ (some 88) _ = _
               simp only [Act.put, List.setIfInBounds_toArray, List.set_cons_zero, List.set_cons_succ, i64_w, i32_w]
               rfl
              refine pure_ (i := 22) (N := some 95) (bv 24 8388607) rfl rfl Q152 (fun _ _ _ h => h) Q153 Q5 ?_
              refine pure_ (i := 23) (N := some 96) (bv 24 16777215) rfl rfl Q152 (fun _ _ _ h => h) Q153 Q5 ?_
              refine done_ (done_of HT_.out Q0) ?_
              try go_wp2
              go_roundg k4
              case measure => have := HJ1.out; have := HK2.out; have := HJ19.out; have := HK4.out; omega
              case rel => exact ⟨(wrap64 (x5_4 + 1)), Q3, H', ⟨by have := HJ1.out; have := HK2.out; have := HJ19.out; have := HK4.out; omega⟩, ⟨Q27⟩, ⟨Q37⟩, ⟨Q25⟩⟩
             replace c37 := Bool.eq_false_iff.mpr c37
             subst c37
             have H1 : (some false) = some r := by rw [if_neg (show ¬ (false = true) by decide)] at H; exact H
             clear H
             have H := H1
             clear H1
             obtain rfl := Option.some.inj H
             have hnb48 := NB229_226.out
             have hnc48 := NB226_229.out
             have ⟨hcz49_0, hcz49_1, hcz49_2, hfz49_0, hfz49_1, hfz49_2⟩ := blk3 BK229.out
             try go_wp2
             have n0_ := Aside0.mk (blk_drew BK226.out)
             have n1_ := Aside0.mk (blk_drew BK229.out)
             have n2_ := Aside0.mk (below_drew1 HB.out)
             clear BK226
             clear BK229
             clear HB
             have BK226 := n0_
             have BK229 := n1_
             have HB := n2_
             clear n0_ n1_ n2_
             have p230 : 0 ≤ (x5_4 : Int) := of_decide_eq_true Q4
             have q230 : x5_4 < (((rd_T80 l0_3 x3_2).f0).length : Int) := of_decide_eq_true Q4
             obtain ⟨ad230, A230_2, c230_2, e230, hx230_0, hx230_1, hx230_2, hx230_3, hx230_4, hl230_2, hi230_2⟩ := at_T83 HR228_0.out x5_4 p230 q230
             have hw230_4 := hx230_4
             have hw230_3 := hx230_3
             have hw230_2 := hx230_2
             have hw230_1 := hx230_1
             have hw230_0 := hx230_0
             cases e230
             replace hx230_0 := (HB.out.cell (World.block_lt_of_cell? w _ hx230_0)).trans hx230_0
             replace hx230_1 := (HB.out.cell (World.block_lt_of_cell? w _ hx230_1)).trans hx230_1
             replace hx230_2 := (HB.out.cell (World.block_lt_of_cell? w _ hx230_2)).trans hx230_2
             replace hx230_3 := (HB.out.cell (World.block_lt_of_cell? w _ hx230_3)).trans hx230_3
             replace hx230_4 := (HB.out.cell (World.block_lt_of_cell? w _ hx230_4)).trans hx230_4
             have HR230_2 := Aside0.mk hi230_2
             have HC230_2 := Aside0.mk hl230_2
             clear hi230_2 hl230_2
             replace p230 := eq_true p230
             replace q230 := eq_true q230
             refine start_ (n := 24) (S := fun w' => w'.cell? ⟨gb226, 0, none⟩ = some (.int .i64 a0_0) ∧ w'.cell? ⟨gb226, 1, none⟩ = some (.int .i64 a0_1) ∧ w'.cell? ⟨gb226, 2, none⟩ = some (.bool a0_2) ∧ w'.cell? ⟨gb226, 3, none⟩ = some (.slice (some ad228) l0_3.length c0_3) ∧ w'.cell? ⟨gb229, 0, none⟩ = some (.slice (some ad230) ((rd_T80 l0_3 x3_2).f0).length c228_0) ∧ w'.cell? ⟨gb229, 1, none⟩ = some (.slice A228_1 ((rd_T80 l0_3 x3_2).f1).length c228_1) ∧ w'.cell? ⟨gb229, 2, none⟩ = some (.int .i64 ((rd_T80 l0_3 x3_2).f2)) ∧ w'.cell? (ad230.add ((x5_4).toNat * 5)) = some (.int .u8 ((rd_T83 ((rd_T80 l0_3 x3_2).f0) x5_4).f0)) ∧ w'.cell? ⟨(ad230.add ((x5_4).toNat * 5)).block, (ad230.add ((x5_4).toNat * 5)).off + 1, none⟩ = some (.int .i64 ((rd_T83 ((rd_T80 l0_3 x3_2).f0) x5_4).f1)) ∧ w'.cell? ⟨(ad230.add ((x5_4).toNat * 5)).block, (ad230.add ((x5_4).toNat * 5)).off + 2, none⟩ = some (.slice A230_2 ((rd_T83 ((rd_T80 l0_3 x3_2).f0) x5_4).f2).length c230_2) ∧ w'.cell? ⟨(ad230.add ((x5_4).toNat * 5)).block, (ad230.add ((x5_4).toNat * 5)).off + 3, none⟩ = some (.int .i64 ((rd_T83 ((rd_T80 l0_3 x3_2).f0) x5_4).f3)) ∧ w'.cell? ⟨(ad230.add ((x5_4).toNat * 5)).block, (ad230.add ((x5_4).toNat * 5)).off + 4, none⟩ = some (.int .u32 ((rd_T83 ((rd_T80 l0_3 x3_2).f0) x5_4).f4))) (ds := []) #[false, false, false, false, false, false, false, false, false, false, false, false, false, false, false, false, false, false, false, false, false, false, false, false] Q0 rfl rfl ⟨(blk_cell BK226.out 0).trans rfl, (blk_cell BK226.out 1).trans rfl, (blk_cell BK226.out 2).trans rfl, (blk_cell BK226.out 3).trans rfl, (blk_cell BK229.out 0).trans rfl, (blk_cell BK229.out 1).trans rfl, (blk_cell BK229.out 2).trans rfl, ((HB.out.cell (World.block_lt_of_cell? w _ hw230_0)).trans hw230_0), ((HB.out.cell (World.block_lt_of_cell? w _ hw230_1)).trans hw230_1), ((HB.out.cell (World.block_lt_of_cell? w _ hw230_2)).trans hw230_2), ((HB.out.cell (World.block_lt_of_cell? w _ hw230_3)).trans hw230_3), ((HB.out.cell (World.block_lt_of_cell? w _ hw230_4)).trans hw230_4)⟩ (fun hHeld => ?_); refine with_tabW mandrelref11_May.tab12 mandrelref11_May.bits12 (fun HT_ HW_ => ?_)
             generalize wr.drew = w50 at BK226 BK229 HB HR230_2 hx230_0 hx230_1 hx230_2 hx230_3 hx230_4 hHeld ⊢
             refine pure_ (i := 1) (N := some 74) (bv 24 2) rfl rfl Q152 (fun _ _ _ h => h) Q153 Q5 ?_
             refine pure_ (i := 3) (N := some 76) (bv 24 10) rfl rfl Q152 (fun _ _ _ h => h) Q153 Q5 ?_
             refine take_ (i := 0) (N := some 73) (bv 24 11) rfl rfl Q156 (fun _ _ _ h => h) (by exact Or.inl ⟨Q2, Q96⟩) hHeld Q5 ?_
             refine take_ (i := 2) (N := some 75) (bv 24 15) rfl rfl Q156 (fun _ _ _ h => h) (by exact Or.inl ⟨Q2, Q96⟩) hHeld Q5 ?_
             refine pure_ (i := 4) (N := some 77) (bv 24 31) rfl rfl Q152 (fun _ _ _ h => h) Q153 Q5 ?_
             refine take_ (i := 5) (N := some 78) (bv 24 63) rfl rfl Q156 (fun _ _ _ h => h) (by exact Or.inl ⟨Q2, Q96⟩) hHeld Q5 ?_
             refine one_ (i := 6) (N := some 79) #[true, true, true, true, true, true, true, false, false, false, false, false, false, false, false, false, false, false, false, false, false, false, false, false] rfl rfl (one_of HT_.out Q0) Q12 (fun K hK => ?_)
             refine goes_ Tryz.func34 Q0 rfl #[.agg #[.int .i64 a0_0, .int .i64 a0_1, .bool a0_2, .slice (some ad228) l0_3.length c0_3], .agg #[.int .u8 ((rd_T83 ((rd_T80 l0_3 x3_2).f0) x5_4).f0), .int .i64 ((rd_T83 ((rd_T80 l0_3 x3_2).f0) x5_4).f1), .slice A230_2 ((rd_T83 ((rd_T80 l0_3 x3_2).f0) x5_4).f2).length c230_2, .int .i64 ((rd_T83 ((rd_T80 l0_3 x3_2).f0) x5_4).f3), .int .u32 ((rd_T83 ((rd_T80 l0_3 x3_2).f0) x5_4).f4)]] Q2 rfl rfl Q9 ?_
             with_reducible refine (mandrelref11_ins.calls k4 a0_0 a0_1 a0_2 _ _ l0_3 ((rd_T83 ((rd_T80 l0_3 x3_2).f0) x5_4).f0) ((rd_T83 ((rd_T80 l0_3 x3_2).f0) x5_4).f1) _ _ ((rd_T83 ((rd_T80 l0_3 x3_2).f0) x5_4).f2) ((rd_T83 ((rd_T80 l0_3 x3_2).f0) x5_4).f3) ((rd_T83 ((rd_T80 l0_3 x3_2).f0) x5_4).f4) false _ ?side1 ?side2 ?side3 ?side4 ?side5 A36.out).mono ?_
             (case side1 => repeat (first | exact (Kd.C_below HR0_3.out HB.out) | (with_reducible refine Kd.C_alloc ?_ _) | (with_reducible refine Kd.C_drewN ?_ _) | (with_reducible refine Kd.C_drew ?_)))
             (case side2 => exact HC0_3.out)
             (case side3 => repeat (first | exact (Kd.C_below HR230_2.out HB.out) | (with_reducible refine Kd.C_alloc ?_ _) | (with_reducible refine Kd.C_drewN ?_ _) | (with_reducible refine Kd.C_drew ?_)))
             (case side4 => exact HC230_2.out)
             (case side5 => exact GG.nil _)
             rintro e w51 ⟨rfl, hb⟩
             refine ⟨_, rfl, ?_⟩
             have n0_ := Aside0.mk (blk_below (g := gb226) (o := .cells #[.int .i64 a0_0, .int .i64 a0_1, .bool a0_2, .slice (some ad228) l0_3.length c0_3] 24 (0, 0)) Q27 hb)
             have n1_ := Aside0.mk (blk_below (g := gb229) (o := .cells #[.slice (some ad230) ((rd_T80 l0_3 x3_2).f0).length c228_0, .slice A228_1 ((rd_T80 l0_3 x3_2).f1).length c228_1, .int .i64 ((rd_T80 l0_3 x3_2).f2)] 80 (0, 0)) Q37 hb)
             have n2_ := Aside0.mk (below_step Q25 hb)
             clear BK226
             clear BK229
             clear HB
             have BK226 := n0_
             have BK229 := n1_
             have HB := n2_
             clear n0_ n1_ n2_
             (try clear hb)
             (try clear hb2)
             (try clear hk)
             (try clear hi)
             refine hK.out _ _ ⟨(blk_cell BK226.out 0).trans rfl, (blk_cell BK226.out 1).trans rfl, (blk_cell BK226.out 2).trans rfl, (blk_cell BK226.out 3).trans rfl, (blk_cell BK229.out 0).trans rfl, (blk_cell BK229.out 1).trans rfl, (blk_cell BK229.out 2).trans rfl, ((HB.out.cell (World.block_lt_of_cell? w _ hw230_0)).trans hw230_0), ((HB.out.cell (World.block_lt_of_cell? w _ hw230_1)).trans hw230_1), ((HB.out.cell (World.block_lt_of_cell? w _ hw230_2)).trans hw230_2), ((HB.out.cell (World.block_lt_of_cell? w _ hw230_3)).trans hw230_3), ((HB.out.cell (World.block_lt_of_cell? w _ hw230_4)).trans hw230_4)⟩ (fun hHeld => ?_)
             clear hK K
             refine norm_ (a' := ?_) ?_ ?_
             rotate_left
             ·show Act.put _ (some 79) _ = _
              simp only [Act.put, List.setIfInBounds_toArray, List.set_cons_zero, List.set_cons_succ, i64_w, i32_w]
              rfl
             refine pure_ (i := 7) (N := some 80) (bv 24 255) rfl rfl Q152 (fun _ _ _ h => h) Q153 Q5 ?_
             refine pure_ (i := 8) (N := some 81) (bv 24 511) rfl rfl Q152 (fun _ _ _ h => h) Q153 Q5 ?_
             refine pure_ (i := 9) (N := some 82) (v := undef) (a' := ?_) (bv 24 1023) rfl rfl (any_of HT_.out Q0) (fun _ _ _ h => h) (Or.inr ⟨Q2, rfl⟩) ?_ ?_
             rotate_left
             ·simp only [Act.put, List.setIfInBounds_toArray, List.set_cons_zero, List.set_cons_succ, i64_w, i32_w]
              rfl
             refine pure_ (i := 10) (N := some 83) (v := undef) (a' := ?_) (bv 24 2047) rfl rfl (any_of HT_.out Q0) (fun _ _ _ h => h) (Or.inr ⟨Q2, rfl⟩) ?_ ?_
             rotate_left
             ·simp only [Act.put, List.setIfInBounds_toArray, List.set_cons_zero, List.set_cons_succ, i64_w, i32_w]
              rfl
             refine pure_ (i := 11) (N := some 84) (v := undef) (a' := ?_) (bv 24 4095) rfl rfl (any_of HT_.out Q0) (fun _ _ _ h => h) (Or.inr ⟨Q2, rfl⟩) ?_ ?_
             rotate_left
             ·simp only [Act.put, List.setIfInBounds_toArray, List.set_cons_zero, List.set_cons_succ, i64_w, i32_w]
              rfl
             refine pure_ (i := 12) (N := some 85) (v := undef) (a' := ?_) (bv 24 8191) rfl rfl (any_of HT_.out Q0) (fun _ _ _ h => h) (Or.inr ⟨Q2, rfl⟩) ?_ ?_
             rotate_left
             ·simp only [Act.put, List.setIfInBounds_toArray, List.set_cons_zero, List.set_cons_succ, i64_w, i32_w]
              rfl
             refine pure_ (i := 13) (N := some 86) (v := undef) (a' := ?_) (bv 24 16383) rfl rfl (any_of HT_.out Q0) (fun _ _ _ h => h) (Or.inr ⟨Q2, rfl⟩) ?_ ?_
             rotate_left
             ·simp only [Act.put, List.setIfInBounds_toArray, List.set_cons_zero, List.set_cons_succ, i64_w, i32_w]
              rfl
             refine pure_ (i := 14) (N := some 87) (v := undef) (a' := ?_) (bv 24 32767) rfl rfl (any_of HT_.out Q0) (fun _ _ _ h => h) (Or.inr ⟨Q2, rfl⟩) ?_ ?_
             rotate_left
             ·simp only [Act.put, List.setIfInBounds_toArray, List.set_cons_zero, List.set_cons_succ, i64_w, i32_w]
              rfl
             refine pure_ (i := 15) (N := some 88) (v := undef) (a' := ?_) (bv 24 65535) rfl rfl (any_of HT_.out Q0) (fun _ _ _ h => h) (Or.inr ⟨Q2, rfl⟩) ?_ ?_
             rotate_left
             ·simp only [Act.put, List.setIfInBounds_toArray, List.set_cons_zero, List.set_cons_succ, i64_w, i32_w]
              rfl
             refine pure_ (i := 16) (N := some 89) (v := undef) (a' := ?_) (bv 24 131071) rfl rfl (any_of HT_.out Q0) (fun _ _ _ h => h) (Or.inr ⟨Q2, rfl⟩) ?_ ?_
             rotate_left
             ·simp only [Act.put, List.setIfInBounds_toArray, List.set_cons_zero, List.set_cons_succ, i64_w, i32_w]
              rfl
             refine pure_ (i := 17) (N := some 90) (v := undef) (a' := ?_) (bv 24 262143) rfl rfl (any_of HT_.out Q0) (fun _ _ _ h => h) (Or.inr ⟨Q2, rfl⟩) ?_ ?_
             rotate_left
             ·simp only [Act.put, List.setIfInBounds_toArray, List.set_cons_zero, List.set_cons_succ, i64_w, i32_w]
              rfl
             refine pure_ (i := 18) (N := some 91) (v := undef) (a' := ?_) (bv 24 524287) rfl rfl (any_of HT_.out Q0) (fun _ _ _ h => h) (Or.inr ⟨Q2, rfl⟩) ?_ ?_
             rotate_left
             ·simp only [Act.put, List.setIfInBounds_toArray, List.set_cons_zero, List.set_cons_succ, i64_w, i32_w]
              rfl
             refine pure_ (i := 19) (N := some 92) (v := undef) (a' := ?_) (bv 24 1048575) rfl rfl (any_of HT_.out Q0) (fun _ _ _ h => h) (Or.inr ⟨Q2, rfl⟩) ?_ ?_
             rotate_left
             ·simp only [Act.put, List.setIfInBounds_toArray, List.set_cons_zero, List.set_cons_succ, i64_w, i32_w]
              rfl
             refine pure_ (i := 20) (N := some 93) (v := undef) (a' := ?_) (bv 24 2097151) rfl rfl (any_of HT_.out Q0) (fun _ _ _ h => h) (Or.inr ⟨Q2, rfl⟩) ?_ ?_
             rotate_left
             ·simp only [Act.put, List.setIfInBounds_toArray, List.set_cons_zero, List.set_cons_succ, i64_w, i32_w]
              rfl
             refine pure_ (i := 21) (N := some 94) (v := undef) (a' := ?_) (bv 24 4194303) rfl rfl (any_of HT_.out Q0) (fun _ _ _ h => h) (Or.inr ⟨Q2, rfl⟩) ?_ ?_
             rotate_left
             ·simp only [Act.put, List.setIfInBounds_toArray, List.set_cons_zero, List.set_cons_succ, i64_w, i32_w]
              rfl
             refine pure_ (i := 22) (N := some 95) (v := undef) (a' := ?_) (bv 24 8388607) rfl rfl (any_of HT_.out Q0) (fun _ _ _ h => h) (Or.inr ⟨Q2, rfl⟩) ?_ ?_
             rotate_left
             ·simp only [Act.put, List.setIfInBounds_toArray, List.set_cons_zero, List.set_cons_succ, i64_w, i32_w]
              rfl
             refine pure_ (i := 23) (N := some 96) (bv 24 16777215) rfl rfl Q152 (fun _ _ _ h => h) Q153 Q5 ?_
             refine done_ (done_of HT_.out Q0) ?_
             try go_wp2
             go_ret
             exact ⟨Q6, Q25⟩
            rw [if_neg c35] at H
            exact absurd H Q8
           rw [if_neg c34] at H
           have c34b0 : decide (x5_4 < (((rd_T80 l0_3 x3_2).f0).length : Int)) = false := decide_eq_false c34
           clear c34
           have H' := Aside0.mk H
           clear H
           have hnb52 := NB229_226.out
           have hnc52 := NB226_229.out
           have ⟨hcz53_0, hcz53_1, hcz53_2, hfz53_0, hfz53_1, hfz53_2⟩ := blk3 BK229.out
           go_wp2
           go_loopg [6] k4 (fun kq v6 w' => ∃ (x6_5 : Int), v6 = .int .i64 x6_5 ∧ Aside0 (mandrelref11_May.l2 kq x3_2 x6_5 a0_0 a0_1 a0_2 l0_3 ((rd_T80 l0_3 x3_2).f0) ((rd_T80 l0_3 x3_2).f1) ((rd_T80 l0_3 x3_2).f2) = some r) ∧ Aside0 (kq ≤ k4) ∧ Aside0 (w'.heap[gb226]? = some (.cells #[.int .i64 a0_0, .int .i64 a0_1, .bool a0_2, (.slice (some ad228) l0_3.length c0_3)] 24 (0, 0))) ∧ Aside0 (w'.heap[gb229]? = some (.cells #[(.slice A228_0 ((rd_T80 l0_3 x3_2).f0).length c228_0), (.slice A228_1 ((rd_T80 l0_3 x3_2).f1).length c228_1), .int .i64 ((rd_T80 l0_3 x3_2).f2)] 80 (0, 0))) ∧ Aside0 (Below w.heap.size w w'))
           case atStart => exact ⟨(0), Q3, H', ⟨Nat.le_refl _⟩, ⟨Q27⟩, ⟨Q37⟩, ⟨Q25⟩⟩
           case round =>
            clear H'
            try clear q2
            try clear hx2
            try clear q23
            try clear hx23
            try clear c34
            try clear c34b0
            try clear hcz53_0 hcz53_1 hcz53_2 hfz53_0 hfz53_1 hfz53_2
            try clear hx230_0
            try clear hx230_1
            try clear hx230_2
            try clear hx230_3
            try clear hx230_4
            try clear hx232_0
            try clear hx232_1
            try clear hx232_2
            try clear hx232_3
            try clear hx232_4
            try clear q230
            try clear q232
            obtain ⟨x6_5, rfl, HA, HK5, BK226, BK229, HB⟩ := hrel
            cases gk with
            | zero => exact absurd HA.out (by simp [mandrelref11_May.l2])
            | succ k5 =>
             have H := HA.out
             clear HA
             simp only [mandrelref11_May.l2] at H
             by_cases c54 : x6_5 < (((rd_T80 l0_3 x3_2).f1).length : Int)
             ·rw [if_pos c54] at H
              have c54b0 : decide (x6_5 < (((rd_T80 l0_3 x3_2).f1).length : Int)) = true := decide_eq_true c54
              clear c54
              by_cases c55 : 0 ≤ x6_5
              ·rw [if_pos c55] at H
               have c55b0 : decide (0 ≤ x6_5) = true := decide_eq_true c55
               clear c55
               by_cases c56 : (rd ((rd_T80 l0_3 x3_2).f1) x6_5) < 0
               ·rw [if_pos c56] at H
                have c56b0 : decide ((rd ((rd_T80 l0_3 x3_2).f1) x6_5) < 0) = true := decide_eq_true c56
                clear c56
                obtain rfl := Option.some.inj H
                have hnb57 := NB229_226.out
                have hnc57 := NB226_229.out
                have ⟨hcz58_0, hcz58_1, hcz58_2, hfz58_0, hfz58_1, hfz58_2⟩ := blk3 BK229.out
                try go_wp2
                have n0_ := Aside0.mk (blk_drew BK226.out)
                have n1_ := Aside0.mk (blk_drew BK229.out)
                have n2_ := Aside0.mk (below_drew1 HB.out)
                clear BK226
                clear BK229
                clear HB
                have BK226 := n0_
                have BK229 := n1_
                have HB := n2_
                clear n0_ n1_ n2_
                have p234 : 0 ≤ (x6_5 : Int) := of_decide_eq_true Q4
                have q234 : x6_5 < (((rd_T80 l0_3 x3_2).f1).length : Int) := of_decide_eq_true Q4
                obtain ⟨ad234, e234, hx234_0⟩ := Kd.at_int HR228_1.out x6_5 p234 q234
                have hw234_0 := hx234_0
                cases e234
                replace hx234_0 := (HB.out.cell (World.block_lt_of_cell? w _ hx234_0)).trans hx234_0
                replace p234 := eq_true p234
                replace q234 := eq_true q234
                refine start_ (n := 17) (S := fun w' => w'.cell? ⟨gb229, 0, none⟩ = some (.slice A228_0 ((rd_T80 l0_3 x3_2).f0).length c228_0) ∧ w'.cell? ⟨gb229, 1, none⟩ = some (.slice (some ad234) ((rd_T80 l0_3 x3_2).f1).length c228_1) ∧ w'.cell? ⟨gb229, 2, none⟩ = some (.int .i64 ((rd_T80 l0_3 x3_2).f2)) ∧ w'.cell? (ad234.add (x6_5).toNat) = some (.int .i64 (rd ((rd_T80 l0_3 x3_2).f1) x6_5))) (ds := []) #[false, false, false, false, false, false, false, false, false, false, false, false, false, false, false, false, false] Q0 rfl rfl ⟨(blk_cell BK229.out 0).trans rfl, (blk_cell BK229.out 1).trans rfl, (blk_cell BK229.out 2).trans rfl, ((HB.out.cell (World.block_lt_of_cell? w _ hw234_0)).trans hw234_0)⟩ (fun hHeld => ?_); refine with_tabW mandrelref11_May.tab17 mandrelref11_May.bits17 (fun HT_ HW_ => ?_)
                generalize wr.drew = w59 at BK226 BK229 HB hx234_0 hHeld ⊢
                refine pure_ (i := 0) (N := some 104) (bv 17 1) rfl rfl Q152 (fun _ _ _ h => h) Q153 Q5 ?_
                refine pure_ (i := 2) (N := some 106) (bv 17 5) rfl rfl Q152 (fun _ _ _ h => h) Q153 Q5 ?_
                refine take_ (i := 1) (N := some 105) (bv 17 7) rfl rfl Q156 (fun _ _ _ h => h) Q161 hHeld Q5 ?_
                refine pure_ (i := 3) (N := some 107) (bv 17 15) rfl rfl Q152 (fun _ _ _ h => h) Q153 Q5 ?_
                refine take_ (i := 4) (N := some 108) (bv 17 31) rfl rfl Q156 (fun _ _ _ h => h) Q161 hHeld Q5 ?_
                refine pure_ (i := 5) (N := some 109) (bv 17 63) rfl rfl Q152 (fun _ _ _ h => h) Q153 Q5 ?_
                refine pure_ (i := 6) (N := some 110) (bv 17 127) rfl rfl Q152 (fun _ _ _ h => h) Q153 Q5 ?_
                refine pure_ (i := 7) (N := some 111) (v := undef) (a' := ?_) (bv 17 255) rfl rfl (any_of HT_.out Q0) (fun _ _ _ h => h) (Or.inr ⟨Q2, rfl⟩) ?_ ?_
                rotate_left
                ·simp only [Act.put, List.setIfInBounds_toArray, List.set_cons_zero, List.set_cons_succ, i64_w, i32_w]
                 rfl
                refine pure_ (i := 8) (N := some 112) (v := undef) (a' := ?_) (bv 17 511) rfl rfl (any_of HT_.out Q0) (fun _ _ _ h => h) (Or.inr ⟨Q2, rfl⟩) ?_ ?_
                rotate_left
                ·simp only [Act.put, List.setIfInBounds_toArray, List.set_cons_zero, List.set_cons_succ, i64_w, i32_w]
                 rfl
                refine pure_ (i := 9) (N := some 113) (v := undef) (a' := ?_) (bv 17 1023) rfl rfl (any_of HT_.out Q0) (fun _ _ _ h => h) (Or.inr ⟨Q2, rfl⟩) ?_ ?_
                rotate_left
                ·simp only [Act.put, List.setIfInBounds_toArray, List.set_cons_zero, List.set_cons_succ, i64_w, i32_w]
                 rfl
                refine pure_ (i := 10) (N := some 114) (v := undef) (a' := ?_) (bv 17 2047) rfl rfl (any_of HT_.out Q0) (fun _ _ _ h => h) (Or.inr ⟨Q2, rfl⟩) ?_ ?_
                rotate_left
                ·simp only [Act.put, List.setIfInBounds_toArray, List.set_cons_zero, List.set_cons_succ, i64_w, i32_w]
                 rfl
                refine pure_ (i := 11) (N := some 115) (v := undef) (a' := ?_) (bv 17 4095) rfl rfl (any_of HT_.out Q0) (fun _ _ _ h => h) (Or.inr ⟨Q2, rfl⟩) ?_ ?_
                rotate_left
                ·simp only [Act.put, List.setIfInBounds_toArray, List.set_cons_zero, List.set_cons_succ, i64_w, i32_w]
                 rfl
                refine pure_ (i := 12) (N := some 116) (v := undef) (a' := ?_) (bv 17 8191) rfl rfl (any_of HT_.out Q0) (fun _ _ _ h => h) (Or.inr ⟨Q2, rfl⟩) ?_ ?_
                rotate_left
                ·simp only [Act.put, List.setIfInBounds_toArray, List.set_cons_zero, List.set_cons_succ, i64_w, i32_w]
                 rfl
                refine pure_ (i := 13) (N := some 117) (v := undef) (a' := ?_) (bv 17 16383) rfl rfl (any_of HT_.out Q0) (fun _ _ _ h => h) (Or.inr ⟨Q2, rfl⟩) ?_ ?_
                rotate_left
                ·simp only [Act.put, List.setIfInBounds_toArray, List.set_cons_zero, List.set_cons_succ, i64_w, i32_w]
                 rfl
                refine pure_ (i := 14) (N := some 118) (v := undef) (a' := ?_) (bv 17 32767) rfl rfl (any_of HT_.out Q0) (fun _ _ _ h => h) (Or.inr ⟨Q2, rfl⟩) ?_ ?_
                rotate_left
                ·simp only [Act.put, List.setIfInBounds_toArray, List.set_cons_zero, List.set_cons_succ, i64_w, i32_w]
                 rfl
                refine pure_ (i := 15) (N := some 119) (v := undef) (a' := ?_) (bv 17 65535) rfl rfl (any_of HT_.out Q0) (fun _ _ _ h => h) (Or.inr ⟨Q2, rfl⟩) ?_ ?_
                rotate_left
                ·simp only [Act.put, List.setIfInBounds_toArray, List.set_cons_zero, List.set_cons_succ, i64_w, i32_w]
                 rfl
                refine pure_ (i := 16) (N := some 120) (bv 17 131071) rfl rfl Q152 (fun _ _ _ h => h) Q153 Q5 ?_
                refine done_ (done_of HT_.out Q0) ?_
                try go_wp2
                go_ret
                exact ⟨Q6, Q25⟩
               rw [if_neg c56] at H
               have c56b0 : decide ((rd ((rd_T80 l0_3 x3_2).f1) x6_5) < 0) = false := decide_eq_false c56
               clear c56
               by_cases c60 : (rd ((rd_T80 l0_3 x3_2).f1) x6_5) ≥ (l0_3.length : Int)
               ·rw [if_pos c60] at H
                have c60b0 : decide ((l0_3.length : Int) ≤ (rd ((rd_T80 l0_3 x3_2).f1) x6_5)) = true := decide_eq_true c60
                clear c60
                obtain rfl := Option.some.inj H
                have hnb61 := NB229_226.out
                have hnc61 := NB226_229.out
                have ⟨hcz62_0, hcz62_1, hcz62_2, hfz62_0, hfz62_1, hfz62_2⟩ := blk3 BK229.out
                try go_wp2
                have n0_ := Aside0.mk (blk_drew BK226.out)
                have n1_ := Aside0.mk (blk_drew BK229.out)
                have n2_ := Aside0.mk (below_drew1 HB.out)
                clear BK226
                clear BK229
                clear HB
                have BK226 := n0_
                have BK229 := n1_
                have HB := n2_
                clear n0_ n1_ n2_
                have p234 : 0 ≤ (x6_5 : Int) := of_decide_eq_true Q4
                have q234 : x6_5 < (((rd_T80 l0_3 x3_2).f1).length : Int) := of_decide_eq_true Q4
                obtain ⟨ad234, e234, hx234_0⟩ := Kd.at_int HR228_1.out x6_5 p234 q234
                have hw234_0 := hx234_0
                cases e234
                replace hx234_0 := (HB.out.cell (World.block_lt_of_cell? w _ hx234_0)).trans hx234_0
                replace p234 := eq_true p234
                replace q234 := eq_true q234
                have p235 : 0 ≤ (x6_5 : Int) := of_decide_eq_true Q4
                have q235 : x6_5 < (((rd_T80 l0_3 x3_2).f1).length : Int) := of_decide_eq_true Q4
                obtain ⟨ad235, e235, hx235_0⟩ := Kd.at_int HR228_1.out x6_5 p235 q235
                have hw235_0 := hx235_0
                obtain rfl : ad234 = ad235 := (by injection e235)
                replace hx235_0 := (HB.out.cell (World.block_lt_of_cell? w _ hx235_0)).trans hx235_0
                replace p235 := eq_true p235
                replace q235 := eq_true q235
                refine start_ (n := 17) (S := fun w' => w'.cell? ⟨gb229, 0, none⟩ = some (.slice A228_0 ((rd_T80 l0_3 x3_2).f0).length c228_0) ∧ w'.cell? ⟨gb229, 1, none⟩ = some (.slice (some ad234) ((rd_T80 l0_3 x3_2).f1).length c228_1) ∧ w'.cell? ⟨gb229, 2, none⟩ = some (.int .i64 ((rd_T80 l0_3 x3_2).f2)) ∧ w'.cell? ⟨gb226, 0, none⟩ = some (.int .i64 a0_0) ∧ w'.cell? ⟨gb226, 1, none⟩ = some (.int .i64 a0_1) ∧ w'.cell? ⟨gb226, 2, none⟩ = some (.bool a0_2) ∧ w'.cell? ⟨gb226, 3, none⟩ = some (.slice (some ad228) l0_3.length c0_3) ∧ w'.cell? (ad234.add (x6_5).toNat) = some (.int .i64 (rd ((rd_T80 l0_3 x3_2).f1) x6_5)) ∧ w'.cell? (ad234.add (x6_5).toNat) = some (.int .i64 (rd ((rd_T80 l0_3 x3_2).f1) x6_5))) (ds := []) #[false, false, false, false, false, false, false, false, false, false, false, false, false, false, false, false, false] Q0 rfl rfl ⟨(blk_cell BK229.out 0).trans rfl, (blk_cell BK229.out 1).trans rfl, (blk_cell BK229.out 2).trans rfl, (blk_cell BK226.out 0).trans rfl, (blk_cell BK226.out 1).trans rfl, (blk_cell BK226.out 2).trans rfl, (blk_cell BK226.out 3).trans rfl, ((HB.out.cell (World.block_lt_of_cell? w _ hw234_0)).trans hw234_0), ((HB.out.cell (World.block_lt_of_cell? w _ hw235_0)).trans hw235_0)⟩ (fun hHeld => ?_); refine with_tabW mandrelref11_May.tab17 mandrelref11_May.bits17 (fun HT_ HW_ => ?_)
                generalize wr.drew = w63 at BK226 BK229 HB hx234_0 hx235_0 hHeld ⊢
                refine pure_ (i := 0) (N := some 104) (bv 17 1) rfl rfl Q152 (fun _ _ _ h => h) Q153 Q5 ?_
                refine pure_ (i := 2) (N := some 106) (bv 17 5) rfl rfl Q152 (fun _ _ _ h => h) Q153 Q5 ?_
                refine take_ (i := 1) (N := some 105) (bv 17 7) rfl rfl Q156 (fun _ _ _ h => h) Q162 hHeld Q5 ?_
                refine pure_ (i := 3) (N := some 107) (bv 17 15) rfl rfl Q152 (fun _ _ _ h => h) Q153 Q5 ?_
                refine take_ (i := 4) (N := some 108) (bv 17 31) rfl rfl Q156 (fun _ _ _ h => h) Q162 hHeld Q5 ?_
                refine pure_ (i := 5) (N := some 109) (bv 17 63) rfl rfl Q152 (fun _ _ _ h => h) Q153 Q5 ?_
                refine pure_ (i := 6) (N := some 110) (bv 17 127) rfl rfl Q152 (fun _ _ _ h => h) Q153 Q5 ?_
                refine pure_ (i := 7) (N := some 111) (bv 17 255) rfl rfl Q152 (fun _ _ _ h => h) Q153 Q5 ?_
                refine pure_ (i := 9) (N := some 113) (bv 17 767) rfl rfl Q152 (fun _ _ _ h => h) Q153 Q5 ?_
                refine pure_ (i := 12) (N := some 116) (bv 17 4863) rfl rfl Q152 (fun _ _ _ h => h) Q153 Q5 ?_
                refine take_ (i := 8) (N := some 112) (bv 17 5119) rfl rfl Q156 (fun _ _ _ h => h) Q162 hHeld Q5 ?_
                refine pure_ (i := 10) (N := some 114) (bv 17 6143) rfl rfl Q152 (fun _ _ _ h => h) Q153 Q5 ?_
                refine take_ (i := 11) (N := some 115) (bv 17 8191) rfl rfl Q156 (fun _ _ _ h => h) Q162 hHeld Q5 ?_
                refine take_ (i := 13) (N := some 117) (bv 17 16383) rfl rfl Q156 (fun _ _ _ h => h) Q162 hHeld Q5 ?_
                refine pure_ (i := 14) (N := some 118) (bv 17 32767) rfl rfl Q152 (fun _ _ _ h => h) Q153 Q5 ?_
                refine pure_ (i := 15) (N := some 119) (bv 17 65535) rfl rfl Q152 (fun _ _ _ h => h) Q153 Q5 ?_
                refine pure_ (i := 16) (N := some 120) (bv 17 131071) rfl rfl Q152 (fun _ _ _ h => h) Q153 Q5 ?_
                refine done_ (done_of HT_.out Q0) ?_
                try go_wp2
                go_ret
                exact ⟨Q6, Q25⟩
               rw [if_neg c60] at H
               have c60b0 : decide ((l0_3.length : Int) ≤ (rd ((rd_T80 l0_3 x3_2).f1) x6_5)) = false := decide_eq_false c60
               clear c60
               have H' := Aside0.mk H
               clear H
               have hnb64 := NB229_226.out
               have hnc64 := NB226_229.out
               have ⟨hcz65_0, hcz65_1, hcz65_2, hfz65_0, hfz65_1, hfz65_2⟩ := blk3 BK229.out
               try go_wp2
               have n0_ := Aside0.mk (blk_drew BK226.out)
               have n1_ := Aside0.mk (blk_drew BK229.out)
               have n2_ := Aside0.mk (below_drew1 HB.out)
               clear BK226
               clear BK229
               clear HB
               have BK226 := n0_
               have BK229 := n1_
               have HB := n2_
               clear n0_ n1_ n2_
               have p234 : 0 ≤ (x6_5 : Int) := of_decide_eq_true Q4
               have q234 : x6_5 < (((rd_T80 l0_3 x3_2).f1).length : Int) := of_decide_eq_true Q4
               obtain ⟨ad234, e234, hx234_0⟩ := Kd.at_int HR228_1.out x6_5 p234 q234
               have hw234_0 := hx234_0
               cases e234
               replace hx234_0 := (HB.out.cell (World.block_lt_of_cell? w _ hx234_0)).trans hx234_0
               replace p234 := eq_true p234
               replace q234 := eq_true q234
               have p235 : 0 ≤ (x6_5 : Int) := of_decide_eq_true Q4
               have q235 : x6_5 < (((rd_T80 l0_3 x3_2).f1).length : Int) := of_decide_eq_true Q4
               obtain ⟨ad235, e235, hx235_0⟩ := Kd.at_int HR228_1.out x6_5 p235 q235
               have hw235_0 := hx235_0
               obtain rfl : ad234 = ad235 := (by injection e235)
               replace hx235_0 := (HB.out.cell (World.block_lt_of_cell? w _ hx235_0)).trans hx235_0
               replace p235 := eq_true p235
               replace q235 := eq_true q235
               refine start_ (n := 17) (S := fun w' => w'.cell? ⟨gb229, 0, none⟩ = some (.slice A228_0 ((rd_T80 l0_3 x3_2).f0).length c228_0) ∧ w'.cell? ⟨gb229, 1, none⟩ = some (.slice (some ad234) ((rd_T80 l0_3 x3_2).f1).length c228_1) ∧ w'.cell? ⟨gb229, 2, none⟩ = some (.int .i64 ((rd_T80 l0_3 x3_2).f2)) ∧ w'.cell? ⟨gb226, 0, none⟩ = some (.int .i64 a0_0) ∧ w'.cell? ⟨gb226, 1, none⟩ = some (.int .i64 a0_1) ∧ w'.cell? ⟨gb226, 2, none⟩ = some (.bool a0_2) ∧ w'.cell? ⟨gb226, 3, none⟩ = some (.slice (some ad228) l0_3.length c0_3) ∧ w'.cell? (ad234.add (x6_5).toNat) = some (.int .i64 (rd ((rd_T80 l0_3 x3_2).f1) x6_5)) ∧ w'.cell? (ad234.add (x6_5).toNat) = some (.int .i64 (rd ((rd_T80 l0_3 x3_2).f1) x6_5))) (ds := []) #[false, false, false, false, false, false, false, false, false, false, false, false, false, false, false, false, false] Q0 rfl rfl ⟨(blk_cell BK229.out 0).trans rfl, (blk_cell BK229.out 1).trans rfl, (blk_cell BK229.out 2).trans rfl, (blk_cell BK226.out 0).trans rfl, (blk_cell BK226.out 1).trans rfl, (blk_cell BK226.out 2).trans rfl, (blk_cell BK226.out 3).trans rfl, ((HB.out.cell (World.block_lt_of_cell? w _ hw234_0)).trans hw234_0), ((HB.out.cell (World.block_lt_of_cell? w _ hw235_0)).trans hw235_0)⟩ (fun hHeld => ?_); refine with_tabW mandrelref11_May.tab17 mandrelref11_May.bits17 (fun HT_ HW_ => ?_)
               generalize wr.drew = w66 at BK226 BK229 HB hx234_0 hx235_0 hHeld ⊢
               refine pure_ (i := 0) (N := some 104) (bv 17 1) rfl rfl Q152 (fun _ _ _ h => h) Q153 Q5 ?_
               refine pure_ (i := 2) (N := some 106) (bv 17 5) rfl rfl Q152 (fun _ _ _ h => h) Q153 Q5 ?_
               refine take_ (i := 1) (N := some 105) (bv 17 7) rfl rfl Q156 (fun _ _ _ h => h) Q162 hHeld Q5 ?_
               refine pure_ (i := 3) (N := some 107) (bv 17 15) rfl rfl Q152 (fun _ _ _ h => h) Q153 Q5 ?_
               refine take_ (i := 4) (N := some 108) (bv 17 31) rfl rfl Q156 (fun _ _ _ h => h) Q162 hHeld Q5 ?_
               refine pure_ (i := 5) (N := some 109) (bv 17 63) rfl rfl Q152 (fun _ _ _ h => h) Q153 Q5 ?_
               refine pure_ (i := 6) (N := some 110) (bv 17 127) rfl rfl Q152 (fun _ _ _ h => h) Q153 Q5 ?_
               refine pure_ (i := 7) (N := some 111) (bv 17 255) rfl rfl Q152 (fun _ _ _ h => h) Q153 Q5 ?_
               refine pure_ (i := 9) (N := some 113) (bv 17 767) rfl rfl Q152 (fun _ _ _ h => h) Q153 Q5 ?_
               refine pure_ (i := 12) (N := some 116) (bv 17 4863) rfl rfl Q152 (fun _ _ _ h => h) Q153 Q5 ?_
               refine take_ (i := 8) (N := some 112) (bv 17 5119) rfl rfl Q156 (fun _ _ _ h => h) Q162 hHeld Q5 ?_
               refine pure_ (i := 10) (N := some 114) (bv 17 6143) rfl rfl Q152 (fun _ _ _ h => h) Q153 Q5 ?_
               refine take_ (i := 11) (N := some 115) (bv 17 8191) rfl rfl Q156 (fun _ _ _ h => h) Q162 hHeld Q5 ?_
               refine take_ (i := 13) (N := some 117) (bv 17 16383) rfl rfl Q156 (fun _ _ _ h => h) Q162 hHeld Q5 ?_
               refine pure_ (i := 14) (N := some 118) (bv 17 32767) rfl rfl Q152 (fun _ _ _ h => h) Q153 Q5 ?_
               refine pure_ (i := 15) (N := some 119) (bv 17 65535) rfl rfl Q152 (fun _ _ _ h => h) Q153 Q5 ?_
               refine pure_ (i := 16) (N := some 120) (bv 17 131071) rfl rfl Q152 (fun _ _ _ h => h) Q153 Q5 ?_
               refine done_ (done_of HT_.out Q0) ?_
               try go_wp2
               go_roundg k5
               case measure => have := HJ1.out; have := HK2.out; have := HJ19.out; have := HK4.out; have := HK5.out; omega
               case rel => exact ⟨(wrap64 (x6_5 + 1)), Q3, H', ⟨Q70⟩, ⟨Q27⟩, ⟨Q37⟩, ⟨Q25⟩⟩
              rw [if_neg c55] at H
              exact absurd H Q8
             rw [if_neg c54] at H
             have c54b0 : decide (x6_5 < (((rd_T80 l0_3 x3_2).f1).length : Int)) = false := decide_eq_false c54
             clear c54
             obtain ⟨ji67, hji67⟩ : ∃ j_ : Int, (wrap64 ((((rd_T80 l0_3 x3_2).f0).length : Int) - 1)) = j_ := ⟨_, rfl⟩
             replace H : (if 0 ≤ (ji67) then (if (ji67) < (((rd_T80 l0_3 x3_2).f0).length : Int) then ((mandrelref11_Name.f k5 ((rd_T83 ((rd_T80 l0_3 x3_2).f0) (ji67)).f0)).bind fun t237 => (if t237.toList = ([106, 117, 109, 112] : List UInt8) then (if (((rd_T80 l0_3 x3_2).f1).length : Int) = 1 then (mandrelref11_May.l0 k5 (wrap64 (x3_2 + 1)) a0_0 a0_1 a0_2 l0_3) else (some false)) else (if t237.toList = ([98, 114, 97, 110, 99, 104] : List UInt8) then (if (((rd_T80 l0_3 x3_2).f1).length : Int) = 2 then (mandrelref11_May.l0 k5 (wrap64 (x3_2 + 1)) a0_0 a0_1 a0_2 l0_3) else (some false)) else (if t237.toList = ([116, 97, 98, 108, 101] : List UInt8) then (if (((rd_T80 l0_3 x3_2).f1).length : Int) < 1 then (some false) else (if (((rd_T80 l0_3 x3_2).f1).length : Int) > 257 then (some false) else (mandrelref11_May.l0 k5 (wrap64 (x3_2 + 1)) a0_0 a0_1 a0_2 l0_3))) else (if (((rd_T80 l0_3 x3_2).f1).length : Int) = 0 then (mandrelref11_May.l0 k5 (wrap64 (x3_2 + 1)) a0_0 a0_1 a0_2 l0_3) else (some false)))))) else (none)) else (none)) = some r := by first | (rw [hji67] at H; exact H) | (simp only [hji67] at H ⊢; exact H)
             have hji67w : (IntKind.i64.wrap ((((rd_T80 l0_3 x3_2).f0).length : Int) - 1)) = ji67 := (i64_w _).trans hji67
             by_cases c68 : 0 ≤ (ji67)
             ·rw [if_pos c68] at H
              have c68b0 : decide (0 ≤ (ji67)) = true := decide_eq_true c68
              clear c68
              by_cases c69 : (ji67) < (((rd_T80 l0_3 x3_2).f0).length : Int)
              ·rw [if_pos c69] at H
               have c69b0 : decide ((ji67) < (((rd_T80 l0_3 x3_2).f0).length : Int)) = true := decide_eq_true c69
               clear c69
               replace H := Option.bind_eq_some_iff.mp H
               obtain ⟨t237, A700, H⟩ := H
               replace H : (if t237.toList = ([106, 117, 109, 112] : List UInt8) then (if (((rd_T80 l0_3 x3_2).f1).length : Int) = 1 then (mandrelref11_May.l0 k5 (wrap64 (x3_2 + 1)) a0_0 a0_1 a0_2 l0_3) else (some false)) else (if t237.toList = ([98, 114, 97, 110, 99, 104] : List UInt8) then (if (((rd_T80 l0_3 x3_2).f1).length : Int) = 2 then (mandrelref11_May.l0 k5 (wrap64 (x3_2 + 1)) a0_0 a0_1 a0_2 l0_3) else (some false)) else (if t237.toList = ([116, 97, 98, 108, 101] : List UInt8) then (if (((rd_T80 l0_3 x3_2).f1).length : Int) < 1 then (some false) else (if (((rd_T80 l0_3 x3_2).f1).length : Int) > 257 then (some false) else (mandrelref11_May.l0 k5 (wrap64 (x3_2 + 1)) a0_0 a0_1 a0_2 l0_3))) else (if (((rd_T80 l0_3 x3_2).f1).length : Int) = 0 then (mandrelref11_May.l0 k5 (wrap64 (x3_2 + 1)) a0_0 a0_1 a0_2 l0_3) else (some false))))) = some r := H
               have A70 := Aside0.mk A700
               clear A700
               by_cases c71 : t237.toList = ([106, 117, 109, 112] : List UInt8)
               ·rw [if_pos c71] at H
                have c71b0 : (t237.toList == ([106, 117, 109, 112] : List UInt8)) = true := beq_iff_eq.mpr c71
                have c71b1 : (t237.toList != ([106, 117, 109, 112] : List UInt8)) = false := bne_eq_false_iff_eq.mpr c71
                clear c71
                by_cases c72 : (((rd_T80 l0_3 x3_2).f1).length : Int) = 1
                ·rw [if_pos c72] at H
                 have c72b0 : ((((rd_T80 l0_3 x3_2).f1).length : Int) == 1) = true := beq_iff_eq.mpr c72
                 have c72b1 : ((((rd_T80 l0_3 x3_2).f1).length : Int) != 1) = false := bne_eq_false_iff_eq.mpr c72
                 clear c72
                 have H' := Aside0.mk H
                 clear H
                 have hnb73 := NB229_226.out
                 have hnc73 := NB226_229.out
                 have ⟨hcz74_0, hcz74_1, hcz74_2, hfz74_0, hfz74_1, hfz74_2⟩ := blk3 BK229.out
                 have p236 : 0 ≤ ((ji67) : Int) := of_decide_eq_true Q4
                 have q236 : (ji67) < (((rd_T80 l0_3 x3_2).f0).length : Int) := of_decide_eq_true Q4
                 obtain ⟨ad236, A236_2, c236_2, e236, hx236_0, hx236_1, hx236_2, hx236_3, hx236_4, hl236_2, hi236_2⟩ := at_T83 HR228_0.out (ji67) p236 q236
                 cases e236
                 replace hx236_0 := (HB.out.cell (World.block_lt_of_cell? w _ hx236_0)).trans hx236_0
                 replace hx236_1 := (HB.out.cell (World.block_lt_of_cell? w _ hx236_1)).trans hx236_1
                 replace hx236_2 := (HB.out.cell (World.block_lt_of_cell? w _ hx236_2)).trans hx236_2
                 replace hx236_3 := (HB.out.cell (World.block_lt_of_cell? w _ hx236_3)).trans hx236_3
                 replace hx236_4 := (HB.out.cell (World.block_lt_of_cell? w _ hx236_4)).trans hx236_4
                 have HR236_2 := Aside0.mk hi236_2
                 have HC236_2 := Aside0.mk hl236_2
                 clear hi236_2 hl236_2
                 replace p236 := eq_true p236
                 replace q236 := eq_true q236
                 go_wp2_with (first | ((with_reducible refine gate_callee (f := 36) rfl ?_); refine goesL_ (some 133) rfl rfl Tryz.func36 Q0 rfl #[.int .u8 ((rd_T83 ((rd_T80 l0_3 x3_2).f0) (ji67)).f0)] rfl Q52 ?_; (with_reducible refine (mandrelref11_Name.calls k5 ((rd_T83 ((rd_T80 l0_3 x3_2).f0) (ji67)).f0) t237 _ ?side1 A70.out).mono ?_); (case side1 => exact GG.nil _); rintro e w75 ⟨rfl, hb⟩; refine ⟨_, rfl, ?_⟩; have n0_ := Aside0.mk (blk_below (g := gb226) (o := .cells #[.int .i64 a0_0, .int .i64 a0_1, .bool a0_2, .slice (some ad228) l0_3.length c0_3] 24 (0, 0)) Q27 hb); have n1_ := Aside0.mk (blk_below (g := gb229) (o := .cells #[.slice (some ad236) ((rd_T80 l0_3 x3_2).f0).length c228_0, .slice A228_1 ((rd_T80 l0_3 x3_2).f1).length c228_1, .int .i64 ((rd_T80 l0_3 x3_2).f2)] 80 (0, 0)) Q37 hb); have n2_ := Aside0.mk (below_step Q25 hb); clear BK226; clear BK229; clear HB; have BK226 := n0_; have BK229 := n1_; have HB := n2_; clear n0_ n1_ n2_; (try clear hb); (try clear hb2); (try clear hk); (try clear hi)))
                 go_roundg k5
                 case measure => have := HJ1.out; have := HK2.out; have := HJ19.out; have := HK4.out; have := HK5.out; omega
                 case rel => exact ⟨(wrap64 (x3_2 + 1)), Q3, H', ⟨Q70⟩, ⟨Q27⟩, ⟨Q25⟩⟩
                rw [if_neg c72] at H
                have c72b0 : ((((rd_T80 l0_3 x3_2).f1).length : Int) == 1) = false := beq_eq_false_iff_ne.mpr c72
                have c72b1 : ((((rd_T80 l0_3 x3_2).f1).length : Int) != 1) = true := bne_iff_ne.mpr c72
                obtain rfl := Option.some.inj H
                have hnb76 := NB229_226.out
                have hnc76 := NB226_229.out
                have ⟨hcz77_0, hcz77_1, hcz77_2, hfz77_0, hfz77_1, hfz77_2⟩ := blk3 BK229.out
                have p236 : 0 ≤ ((ji67) : Int) := of_decide_eq_true Q4
                have q236 : (ji67) < (((rd_T80 l0_3 x3_2).f0).length : Int) := of_decide_eq_true Q4
                obtain ⟨ad236, A236_2, c236_2, e236, hx236_0, hx236_1, hx236_2, hx236_3, hx236_4, hl236_2, hi236_2⟩ := at_T83 HR228_0.out (ji67) p236 q236
                cases e236
                replace hx236_0 := (HB.out.cell (World.block_lt_of_cell? w _ hx236_0)).trans hx236_0
                replace hx236_1 := (HB.out.cell (World.block_lt_of_cell? w _ hx236_1)).trans hx236_1
                replace hx236_2 := (HB.out.cell (World.block_lt_of_cell? w _ hx236_2)).trans hx236_2
                replace hx236_3 := (HB.out.cell (World.block_lt_of_cell? w _ hx236_3)).trans hx236_3
                replace hx236_4 := (HB.out.cell (World.block_lt_of_cell? w _ hx236_4)).trans hx236_4
                have HR236_2 := Aside0.mk hi236_2
                have HC236_2 := Aside0.mk hl236_2
                clear hi236_2 hl236_2
                replace p236 := eq_true p236
                replace q236 := eq_true q236
                go_wp2_with (first | ((with_reducible refine gate_callee (f := 36) rfl ?_); refine goesL_ (some 133) rfl rfl Tryz.func36 Q0 rfl #[.int .u8 ((rd_T83 ((rd_T80 l0_3 x3_2).f0) (ji67)).f0)] rfl Q52 ?_; (with_reducible refine (mandrelref11_Name.calls k5 ((rd_T83 ((rd_T80 l0_3 x3_2).f0) (ji67)).f0) t237 _ ?side1 A70.out).mono ?_); (case side1 => exact GG.nil _); rintro e w78 ⟨rfl, hb⟩; refine ⟨_, rfl, ?_⟩; have n0_ := Aside0.mk (blk_below (g := gb226) (o := .cells #[.int .i64 a0_0, .int .i64 a0_1, .bool a0_2, .slice (some ad228) l0_3.length c0_3] 24 (0, 0)) Q27 hb); have n1_ := Aside0.mk (blk_below (g := gb229) (o := .cells #[.slice (some ad236) ((rd_T80 l0_3 x3_2).f0).length c228_0, .slice A228_1 ((rd_T80 l0_3 x3_2).f1).length c228_1, .int .i64 ((rd_T80 l0_3 x3_2).f2)] 80 (0, 0)) Q37 hb); have n2_ := Aside0.mk (below_step Q25 hb); clear BK226; clear BK229; clear HB; have BK226 := n0_; have BK229 := n1_; have HB := n2_; clear n0_ n1_ n2_; (try clear hb); (try clear hb2); (try clear hk); (try clear hi)))
                go_ret
                exact ⟨Q71, Q25⟩
               rw [if_neg c71] at H
               have c71b0 : (t237.toList == ([106, 117, 109, 112] : List UInt8)) = false := beq_eq_false_iff_ne.mpr c71
               have c71b1 : (t237.toList != ([106, 117, 109, 112] : List UInt8)) = true := bne_iff_ne.mpr c71
               by_cases c79 : t237.toList = ([98, 114, 97, 110, 99, 104] : List UInt8)
               ·rw [if_pos c79] at H
                have c79b0 : (t237.toList == ([98, 114, 97, 110, 99, 104] : List UInt8)) = true := beq_iff_eq.mpr c79
                have c79b1 : (t237.toList != ([98, 114, 97, 110, 99, 104] : List UInt8)) = false := bne_eq_false_iff_eq.mpr c79
                clear c79
                by_cases c80 : (((rd_T80 l0_3 x3_2).f1).length : Int) = 2
                ·rw [if_pos c80] at H
                 have c80b0 : ((((rd_T80 l0_3 x3_2).f1).length : Int) == 2) = true := beq_iff_eq.mpr c80
                 have c80b1 : ((((rd_T80 l0_3 x3_2).f1).length : Int) != 2) = false := bne_eq_false_iff_eq.mpr c80
                 clear c80
                 have H' := Aside0.mk H
                 clear H
                 have hnb81 := NB229_226.out
                 have hnc81 := NB226_229.out
                 have ⟨hcz82_0, hcz82_1, hcz82_2, hfz82_0, hfz82_1, hfz82_2⟩ := blk3 BK229.out
                 have p236 : 0 ≤ ((ji67) : Int) := of_decide_eq_true Q4
                 have q236 : (ji67) < (((rd_T80 l0_3 x3_2).f0).length : Int) := of_decide_eq_true Q4
                 obtain ⟨ad236, A236_2, c236_2, e236, hx236_0, hx236_1, hx236_2, hx236_3, hx236_4, hl236_2, hi236_2⟩ := at_T83 HR228_0.out (ji67) p236 q236
                 cases e236
                 replace hx236_0 := (HB.out.cell (World.block_lt_of_cell? w _ hx236_0)).trans hx236_0
                 replace hx236_1 := (HB.out.cell (World.block_lt_of_cell? w _ hx236_1)).trans hx236_1
                 replace hx236_2 := (HB.out.cell (World.block_lt_of_cell? w _ hx236_2)).trans hx236_2
                 replace hx236_3 := (HB.out.cell (World.block_lt_of_cell? w _ hx236_3)).trans hx236_3
                 replace hx236_4 := (HB.out.cell (World.block_lt_of_cell? w _ hx236_4)).trans hx236_4
                 have HR236_2 := Aside0.mk hi236_2
                 have HC236_2 := Aside0.mk hl236_2
                 clear hi236_2 hl236_2
                 replace p236 := eq_true p236
                 replace q236 := eq_true q236
                 go_wp2_with (first | ((with_reducible refine gate_callee (f := 36) rfl ?_); refine goesL_ (some 133) rfl rfl Tryz.func36 Q0 rfl #[.int .u8 ((rd_T83 ((rd_T80 l0_3 x3_2).f0) (ji67)).f0)] rfl Q52 ?_; (with_reducible refine (mandrelref11_Name.calls k5 ((rd_T83 ((rd_T80 l0_3 x3_2).f0) (ji67)).f0) t237 _ ?side1 A70.out).mono ?_); (case side1 => exact GG.nil _); rintro e w83 ⟨rfl, hb⟩; refine ⟨_, rfl, ?_⟩; have n0_ := Aside0.mk (blk_below (g := gb226) (o := .cells #[.int .i64 a0_0, .int .i64 a0_1, .bool a0_2, .slice (some ad228) l0_3.length c0_3] 24 (0, 0)) Q27 hb); have n1_ := Aside0.mk (blk_below (g := gb229) (o := .cells #[.slice (some ad236) ((rd_T80 l0_3 x3_2).f0).length c228_0, .slice A228_1 ((rd_T80 l0_3 x3_2).f1).length c228_1, .int .i64 ((rd_T80 l0_3 x3_2).f2)] 80 (0, 0)) Q37 hb); have n2_ := Aside0.mk (below_step Q25 hb); clear BK226; clear BK229; clear HB; have BK226 := n0_; have BK229 := n1_; have HB := n2_; clear n0_ n1_ n2_; (try clear hb); (try clear hb2); (try clear hk); (try clear hi)))
                 go_roundg k5
                 case measure => have := HJ1.out; have := HK2.out; have := HJ19.out; have := HK4.out; have := HK5.out; omega
                 case rel => exact ⟨(wrap64 (x3_2 + 1)), Q3, H', ⟨Q70⟩, ⟨Q27⟩, ⟨Q25⟩⟩
                rw [if_neg c80] at H
                have c80b0 : ((((rd_T80 l0_3 x3_2).f1).length : Int) == 2) = false := beq_eq_false_iff_ne.mpr c80
                have c80b1 : ((((rd_T80 l0_3 x3_2).f1).length : Int) != 2) = true := bne_iff_ne.mpr c80
                obtain rfl := Option.some.inj H
                have hnb84 := NB229_226.out
                have hnc84 := NB226_229.out
                have ⟨hcz85_0, hcz85_1, hcz85_2, hfz85_0, hfz85_1, hfz85_2⟩ := blk3 BK229.out
                have p236 : 0 ≤ ((ji67) : Int) := of_decide_eq_true Q4
                have q236 : (ji67) < (((rd_T80 l0_3 x3_2).f0).length : Int) := of_decide_eq_true Q4
                obtain ⟨ad236, A236_2, c236_2, e236, hx236_0, hx236_1, hx236_2, hx236_3, hx236_4, hl236_2, hi236_2⟩ := at_T83 HR228_0.out (ji67) p236 q236
                cases e236
                replace hx236_0 := (HB.out.cell (World.block_lt_of_cell? w _ hx236_0)).trans hx236_0
                replace hx236_1 := (HB.out.cell (World.block_lt_of_cell? w _ hx236_1)).trans hx236_1
                replace hx236_2 := (HB.out.cell (World.block_lt_of_cell? w _ hx236_2)).trans hx236_2
                replace hx236_3 := (HB.out.cell (World.block_lt_of_cell? w _ hx236_3)).trans hx236_3
                replace hx236_4 := (HB.out.cell (World.block_lt_of_cell? w _ hx236_4)).trans hx236_4
                have HR236_2 := Aside0.mk hi236_2
                have HC236_2 := Aside0.mk hl236_2
                clear hi236_2 hl236_2
                replace p236 := eq_true p236
                replace q236 := eq_true q236
                go_wp2_with (first | ((with_reducible refine gate_callee (f := 36) rfl ?_); refine goesL_ (some 133) rfl rfl Tryz.func36 Q0 rfl #[.int .u8 ((rd_T83 ((rd_T80 l0_3 x3_2).f0) (ji67)).f0)] rfl Q52 ?_; (with_reducible refine (mandrelref11_Name.calls k5 ((rd_T83 ((rd_T80 l0_3 x3_2).f0) (ji67)).f0) t237 _ ?side1 A70.out).mono ?_); (case side1 => exact GG.nil _); rintro e w86 ⟨rfl, hb⟩; refine ⟨_, rfl, ?_⟩; have n0_ := Aside0.mk (blk_below (g := gb226) (o := .cells #[.int .i64 a0_0, .int .i64 a0_1, .bool a0_2, .slice (some ad228) l0_3.length c0_3] 24 (0, 0)) Q27 hb); have n1_ := Aside0.mk (blk_below (g := gb229) (o := .cells #[.slice (some ad236) ((rd_T80 l0_3 x3_2).f0).length c228_0, .slice A228_1 ((rd_T80 l0_3 x3_2).f1).length c228_1, .int .i64 ((rd_T80 l0_3 x3_2).f2)] 80 (0, 0)) Q37 hb); have n2_ := Aside0.mk (below_step Q25 hb); clear BK226; clear BK229; clear HB; have BK226 := n0_; have BK229 := n1_; have HB := n2_; clear n0_ n1_ n2_; (try clear hb); (try clear hb2); (try clear hk); (try clear hi)))
                go_ret
                exact ⟨Q71, Q25⟩
               rw [if_neg c79] at H
               have c79b0 : (t237.toList == ([98, 114, 97, 110, 99, 104] : List UInt8)) = false := beq_eq_false_iff_ne.mpr c79
               have c79b1 : (t237.toList != ([98, 114, 97, 110, 99, 104] : List UInt8)) = true := bne_iff_ne.mpr c79
               by_cases c87 : t237.toList = ([116, 97, 98, 108, 101] : List UInt8)
               ·rw [if_pos c87] at H
                have c87b0 : (t237.toList == ([116, 97, 98, 108, 101] : List UInt8)) = true := beq_iff_eq.mpr c87
                have c87b1 : (t237.toList != ([116, 97, 98, 108, 101] : List UInt8)) = false := bne_eq_false_iff_eq.mpr c87
                clear c87
                by_cases c88 : (((rd_T80 l0_3 x3_2).f1).length : Int) < 1
                ·rw [if_pos c88] at H
                 have c88b0 : decide ((((rd_T80 l0_3 x3_2).f1).length : Int) < 1) = true := decide_eq_true c88
                 have c88b1 : decide (((rd_T80 l0_3 x3_2).f1).length < 1) = true := decide_eq_true Q20
                 clear c88
                 obtain rfl := Option.some.inj H
                 have hnb89 := NB229_226.out
                 have hnc89 := NB226_229.out
                 have ⟨hcz90_0, hcz90_1, hcz90_2, hfz90_0, hfz90_1, hfz90_2⟩ := blk3 BK229.out
                 have p236 : 0 ≤ ((ji67) : Int) := of_decide_eq_true Q4
                 have q236 : (ji67) < (((rd_T80 l0_3 x3_2).f0).length : Int) := of_decide_eq_true Q4
                 obtain ⟨ad236, A236_2, c236_2, e236, hx236_0, hx236_1, hx236_2, hx236_3, hx236_4, hl236_2, hi236_2⟩ := at_T83 HR228_0.out (ji67) p236 q236
                 cases e236
                 replace hx236_0 := (HB.out.cell (World.block_lt_of_cell? w _ hx236_0)).trans hx236_0
                 replace hx236_1 := (HB.out.cell (World.block_lt_of_cell? w _ hx236_1)).trans hx236_1
                 replace hx236_2 := (HB.out.cell (World.block_lt_of_cell? w _ hx236_2)).trans hx236_2
                 replace hx236_3 := (HB.out.cell (World.block_lt_of_cell? w _ hx236_3)).trans hx236_3
                 replace hx236_4 := (HB.out.cell (World.block_lt_of_cell? w _ hx236_4)).trans hx236_4
                 have HR236_2 := Aside0.mk hi236_2
                 have HC236_2 := Aside0.mk hl236_2
                 clear hi236_2 hl236_2
                 replace p236 := eq_true p236
                 replace q236 := eq_true q236
                 go_wp2_with (first | ((with_reducible refine gate_callee (f := 36) rfl ?_); refine goesL_ (some 133) rfl rfl Tryz.func36 Q0 rfl #[.int .u8 ((rd_T83 ((rd_T80 l0_3 x3_2).f0) (ji67)).f0)] rfl Q52 ?_; (with_reducible refine (mandrelref11_Name.calls k5 ((rd_T83 ((rd_T80 l0_3 x3_2).f0) (ji67)).f0) t237 _ ?side1 A70.out).mono ?_); (case side1 => exact GG.nil _); rintro e w91 ⟨rfl, hb⟩; refine ⟨_, rfl, ?_⟩; have n0_ := Aside0.mk (blk_below (g := gb226) (o := .cells #[.int .i64 a0_0, .int .i64 a0_1, .bool a0_2, .slice (some ad228) l0_3.length c0_3] 24 (0, 0)) Q27 hb); have n1_ := Aside0.mk (blk_below (g := gb229) (o := .cells #[.slice (some ad236) ((rd_T80 l0_3 x3_2).f0).length c228_0, .slice A228_1 ((rd_T80 l0_3 x3_2).f1).length c228_1, .int .i64 ((rd_T80 l0_3 x3_2).f2)] 80 (0, 0)) Q37 hb); have n2_ := Aside0.mk (below_step Q25 hb); clear BK226; clear BK229; clear HB; have BK226 := n0_; have BK229 := n1_; have HB := n2_; clear n0_ n1_ n2_; (try clear hb); (try clear hb2); (try clear hk); (try clear hi)))
                 go_ret
                 exact ⟨Q71, Q25⟩
                rw [if_neg c88] at H
                have c88b0 : decide ((((rd_T80 l0_3 x3_2).f1).length : Int) < 1) = false := decide_eq_false c88
                have c88b1 : decide (((rd_T80 l0_3 x3_2).f1).length < 1) = false := decide_eq_false Q20
                clear c88
                by_cases c92 : (((rd_T80 l0_3 x3_2).f1).length : Int) > 257
                ·rw [if_pos c92] at H
                 have c92b0 : decide (257 < (((rd_T80 l0_3 x3_2).f1).length : Int)) = true := decide_eq_true c92
                 have c92b1 : decide (257 < ((rd_T80 l0_3 x3_2).f1).length) = true := decide_eq_true Q20
                 clear c92
                 obtain rfl := Option.some.inj H
                 have hnb93 := NB229_226.out
                 have hnc93 := NB226_229.out
                 have ⟨hcz94_0, hcz94_1, hcz94_2, hfz94_0, hfz94_1, hfz94_2⟩ := blk3 BK229.out
                 have p236 : 0 ≤ ((ji67) : Int) := of_decide_eq_true Q4
                 have q236 : (ji67) < (((rd_T80 l0_3 x3_2).f0).length : Int) := of_decide_eq_true Q4
                 obtain ⟨ad236, A236_2, c236_2, e236, hx236_0, hx236_1, hx236_2, hx236_3, hx236_4, hl236_2, hi236_2⟩ := at_T83 HR228_0.out (ji67) p236 q236
                 cases e236
                 replace hx236_0 := (HB.out.cell (World.block_lt_of_cell? w _ hx236_0)).trans hx236_0
                 replace hx236_1 := (HB.out.cell (World.block_lt_of_cell? w _ hx236_1)).trans hx236_1
                 replace hx236_2 := (HB.out.cell (World.block_lt_of_cell? w _ hx236_2)).trans hx236_2
                 replace hx236_3 := (HB.out.cell (World.block_lt_of_cell? w _ hx236_3)).trans hx236_3
                 replace hx236_4 := (HB.out.cell (World.block_lt_of_cell? w _ hx236_4)).trans hx236_4
                 have HR236_2 := Aside0.mk hi236_2
                 have HC236_2 := Aside0.mk hl236_2
                 clear hi236_2 hl236_2
                 replace p236 := eq_true p236
                 replace q236 := eq_true q236
                 go_wp2_with (first | ((with_reducible refine gate_callee (f := 36) rfl ?_); refine goesL_ (some 133) rfl rfl Tryz.func36 Q0 rfl #[.int .u8 ((rd_T83 ((rd_T80 l0_3 x3_2).f0) (ji67)).f0)] rfl Q52 ?_; (with_reducible refine (mandrelref11_Name.calls k5 ((rd_T83 ((rd_T80 l0_3 x3_2).f0) (ji67)).f0) t237 _ ?side1 A70.out).mono ?_); (case side1 => exact GG.nil _); rintro e w95 ⟨rfl, hb⟩; refine ⟨_, rfl, ?_⟩; have n0_ := Aside0.mk (blk_below (g := gb226) (o := .cells #[.int .i64 a0_0, .int .i64 a0_1, .bool a0_2, .slice (some ad228) l0_3.length c0_3] 24 (0, 0)) Q27 hb); have n1_ := Aside0.mk (blk_below (g := gb229) (o := .cells #[.slice (some ad236) ((rd_T80 l0_3 x3_2).f0).length c228_0, .slice A228_1 ((rd_T80 l0_3 x3_2).f1).length c228_1, .int .i64 ((rd_T80 l0_3 x3_2).f2)] 80 (0, 0)) Q37 hb); have n2_ := Aside0.mk (below_step Q25 hb); clear BK226; clear BK229; clear HB; have BK226 := n0_; have BK229 := n1_; have HB := n2_; clear n0_ n1_ n2_; (try clear hb); (try clear hb2); (try clear hk); (try clear hi)))
                 go_ret
                 exact ⟨Q71, Q25⟩
                rw [if_neg c92] at H
                have c92b0 : decide (257 < (((rd_T80 l0_3 x3_2).f1).length : Int)) = false := decide_eq_false c92
                have c92b1 : decide (257 < ((rd_T80 l0_3 x3_2).f1).length) = false := decide_eq_false Q20
                clear c92
                have H' := Aside0.mk H
                clear H
                have hnb96 := NB229_226.out
                have hnc96 := NB226_229.out
                have ⟨hcz97_0, hcz97_1, hcz97_2, hfz97_0, hfz97_1, hfz97_2⟩ := blk3 BK229.out
                have p236 : 0 ≤ ((ji67) : Int) := of_decide_eq_true Q4
                have q236 : (ji67) < (((rd_T80 l0_3 x3_2).f0).length : Int) := of_decide_eq_true Q4
                obtain ⟨ad236, A236_2, c236_2, e236, hx236_0, hx236_1, hx236_2, hx236_3, hx236_4, hl236_2, hi236_2⟩ := at_T83 HR228_0.out (ji67) p236 q236
                cases e236
                replace hx236_0 := (HB.out.cell (World.block_lt_of_cell? w _ hx236_0)).trans hx236_0
                replace hx236_1 := (HB.out.cell (World.block_lt_of_cell? w _ hx236_1)).trans hx236_1
                replace hx236_2 := (HB.out.cell (World.block_lt_of_cell? w _ hx236_2)).trans hx236_2
                replace hx236_3 := (HB.out.cell (World.block_lt_of_cell? w _ hx236_3)).trans hx236_3
                replace hx236_4 := (HB.out.cell (World.block_lt_of_cell? w _ hx236_4)).trans hx236_4
                have HR236_2 := Aside0.mk hi236_2
                have HC236_2 := Aside0.mk hl236_2
                clear hi236_2 hl236_2
                replace p236 := eq_true p236
                replace q236 := eq_true q236
                go_wp2_with (first | ((with_reducible refine gate_callee (f := 36) rfl ?_); refine goesL_ (some 133) rfl rfl Tryz.func36 Q0 rfl #[.int .u8 ((rd_T83 ((rd_T80 l0_3 x3_2).f0) (ji67)).f0)] rfl Q52 ?_; (with_reducible refine (mandrelref11_Name.calls k5 ((rd_T83 ((rd_T80 l0_3 x3_2).f0) (ji67)).f0) t237 _ ?side1 A70.out).mono ?_); (case side1 => exact GG.nil _); rintro e w98 ⟨rfl, hb⟩; refine ⟨_, rfl, ?_⟩; have n0_ := Aside0.mk (blk_below (g := gb226) (o := .cells #[.int .i64 a0_0, .int .i64 a0_1, .bool a0_2, .slice (some ad228) l0_3.length c0_3] 24 (0, 0)) Q27 hb); have n1_ := Aside0.mk (blk_below (g := gb229) (o := .cells #[.slice (some ad236) ((rd_T80 l0_3 x3_2).f0).length c228_0, .slice A228_1 ((rd_T80 l0_3 x3_2).f1).length c228_1, .int .i64 ((rd_T80 l0_3 x3_2).f2)] 80 (0, 0)) Q37 hb); have n2_ := Aside0.mk (below_step Q25 hb); clear BK226; clear BK229; clear HB; have BK226 := n0_; have BK229 := n1_; have HB := n2_; clear n0_ n1_ n2_; (try clear hb); (try clear hb2); (try clear hk); (try clear hi)))
                go_roundg k5
                case measure => have := HJ1.out; have := HK2.out; have := HJ19.out; have := HK4.out; have := HK5.out; omega
                case rel => exact ⟨(wrap64 (x3_2 + 1)), Q3, H', ⟨Q70⟩, ⟨Q27⟩, ⟨Q25⟩⟩
               rw [if_neg c87] at H
               have c87b0 : (t237.toList == ([116, 97, 98, 108, 101] : List UInt8)) = false := beq_eq_false_iff_ne.mpr c87
               have c87b1 : (t237.toList != ([116, 97, 98, 108, 101] : List UInt8)) = true := bne_iff_ne.mpr c87
               by_cases c99 : (((rd_T80 l0_3 x3_2).f1).length : Int) = 0
               ·rw [if_pos c99] at H
                have c99b0 : ((((rd_T80 l0_3 x3_2).f1).length : Int) == 0) = true := beq_iff_eq.mpr c99
                have c99b1 : ((((rd_T80 l0_3 x3_2).f1).length : Int) != 0) = false := bne_eq_false_iff_eq.mpr c99
                clear c99
                have H' := Aside0.mk H
                clear H
                have hnb100 := NB229_226.out
                have hnc100 := NB226_229.out
                have ⟨hcz101_0, hcz101_1, hcz101_2, hfz101_0, hfz101_1, hfz101_2⟩ := blk3 BK229.out
                have p236 : 0 ≤ ((ji67) : Int) := of_decide_eq_true Q4
                have q236 : (ji67) < (((rd_T80 l0_3 x3_2).f0).length : Int) := of_decide_eq_true Q4
                obtain ⟨ad236, A236_2, c236_2, e236, hx236_0, hx236_1, hx236_2, hx236_3, hx236_4, hl236_2, hi236_2⟩ := at_T83 HR228_0.out (ji67) p236 q236
                cases e236
                replace hx236_0 := (HB.out.cell (World.block_lt_of_cell? w _ hx236_0)).trans hx236_0
                replace hx236_1 := (HB.out.cell (World.block_lt_of_cell? w _ hx236_1)).trans hx236_1
                replace hx236_2 := (HB.out.cell (World.block_lt_of_cell? w _ hx236_2)).trans hx236_2
                replace hx236_3 := (HB.out.cell (World.block_lt_of_cell? w _ hx236_3)).trans hx236_3
                replace hx236_4 := (HB.out.cell (World.block_lt_of_cell? w _ hx236_4)).trans hx236_4
                have HR236_2 := Aside0.mk hi236_2
                have HC236_2 := Aside0.mk hl236_2
                clear hi236_2 hl236_2
                replace p236 := eq_true p236
                replace q236 := eq_true q236
                go_wp2_with (first | ((with_reducible refine gate_callee (f := 36) rfl ?_); refine goesL_ (some 133) rfl rfl Tryz.func36 Q0 rfl #[.int .u8 ((rd_T83 ((rd_T80 l0_3 x3_2).f0) (ji67)).f0)] rfl Q52 ?_; (with_reducible refine (mandrelref11_Name.calls k5 ((rd_T83 ((rd_T80 l0_3 x3_2).f0) (ji67)).f0) t237 _ ?side1 A70.out).mono ?_); (case side1 => exact GG.nil _); rintro e w102 ⟨rfl, hb⟩; refine ⟨_, rfl, ?_⟩; have n0_ := Aside0.mk (blk_below (g := gb226) (o := .cells #[.int .i64 a0_0, .int .i64 a0_1, .bool a0_2, .slice (some ad228) l0_3.length c0_3] 24 (0, 0)) Q27 hb); have n1_ := Aside0.mk (blk_below (g := gb229) (o := .cells #[.slice (some ad236) ((rd_T80 l0_3 x3_2).f0).length c228_0, .slice A228_1 ((rd_T80 l0_3 x3_2).f1).length c228_1, .int .i64 ((rd_T80 l0_3 x3_2).f2)] 80 (0, 0)) Q37 hb); have n2_ := Aside0.mk (below_step Q25 hb); clear BK226; clear BK229; clear HB; have BK226 := n0_; have BK229 := n1_; have HB := n2_; clear n0_ n1_ n2_; (try clear hb); (try clear hb2); (try clear hk); (try clear hi)))
                go_roundg k5
                case measure => have := HJ1.out; have := HK2.out; have := HJ19.out; have := HK4.out; have := HK5.out; omega
                case rel => exact ⟨(wrap64 (x3_2 + 1)), Q3, H', ⟨Q70⟩, ⟨Q27⟩, ⟨Q25⟩⟩
               rw [if_neg c99] at H
               have c99b0 : ((((rd_T80 l0_3 x3_2).f1).length : Int) == 0) = false := beq_eq_false_iff_ne.mpr c99
               have c99b1 : ((((rd_T80 l0_3 x3_2).f1).length : Int) != 0) = true := bne_iff_ne.mpr c99
               have c99b2 : ¬ (((rd_T80 l0_3 x3_2).f1) = []) := fun h_ => c99 (by rw [h_]; rfl)
               obtain rfl := Option.some.inj H
               have hnb103 := NB229_226.out
               have hnc103 := NB226_229.out
               have ⟨hcz104_0, hcz104_1, hcz104_2, hfz104_0, hfz104_1, hfz104_2⟩ := blk3 BK229.out
               have p236 : 0 ≤ ((ji67) : Int) := of_decide_eq_true Q4
               have q236 : (ji67) < (((rd_T80 l0_3 x3_2).f0).length : Int) := of_decide_eq_true Q4
               obtain ⟨ad236, A236_2, c236_2, e236, hx236_0, hx236_1, hx236_2, hx236_3, hx236_4, hl236_2, hi236_2⟩ := at_T83 HR228_0.out (ji67) p236 q236
               cases e236
               replace hx236_0 := (HB.out.cell (World.block_lt_of_cell? w _ hx236_0)).trans hx236_0
               replace hx236_1 := (HB.out.cell (World.block_lt_of_cell? w _ hx236_1)).trans hx236_1
               replace hx236_2 := (HB.out.cell (World.block_lt_of_cell? w _ hx236_2)).trans hx236_2
               replace hx236_3 := (HB.out.cell (World.block_lt_of_cell? w _ hx236_3)).trans hx236_3
               replace hx236_4 := (HB.out.cell (World.block_lt_of_cell? w _ hx236_4)).trans hx236_4
               have HR236_2 := Aside0.mk hi236_2
               have HC236_2 := Aside0.mk hl236_2
               clear hi236_2 hl236_2
               replace p236 := eq_true p236
               replace q236 := eq_true q236
               go_wp2_with (first | ((with_reducible refine gate_callee (f := 36) rfl ?_); refine goesL_ (some 133) rfl rfl Tryz.func36 Q0 rfl #[.int .u8 ((rd_T83 ((rd_T80 l0_3 x3_2).f0) (ji67)).f0)] rfl Q52 ?_; (with_reducible refine (mandrelref11_Name.calls k5 ((rd_T83 ((rd_T80 l0_3 x3_2).f0) (ji67)).f0) t237 _ ?side1 A70.out).mono ?_); (case side1 => exact GG.nil _); rintro e w105 ⟨rfl, hb⟩; refine ⟨_, rfl, ?_⟩; have n0_ := Aside0.mk (blk_below (g := gb226) (o := .cells #[.int .i64 a0_0, .int .i64 a0_1, .bool a0_2, .slice (some ad228) l0_3.length c0_3] 24 (0, 0)) Q27 hb); have n1_ := Aside0.mk (blk_below (g := gb229) (o := .cells #[.slice (some ad236) ((rd_T80 l0_3 x3_2).f0).length c228_0, .slice A228_1 ((rd_T80 l0_3 x3_2).f1).length c228_1, .int .i64 ((rd_T80 l0_3 x3_2).f2)] 80 (0, 0)) Q37 hb); have n2_ := Aside0.mk (below_step Q25 hb); clear BK226; clear BK229; clear HB; have BK226 := n0_; have BK229 := n1_; have HB := n2_; clear n0_ n1_ n2_; (try clear hb); (try clear hb2); (try clear hk); (try clear hi)))
               go_ret
               exact ⟨Q71, Q25⟩
              rw [if_neg c69] at H
              exact absurd H Q8
             rw [if_neg c68] at H
             exact absurd H Q8
      rw [if_neg c19] at H
      exact absurd H Q8
     rw [if_neg c18] at H
     have c18b0 : decide (x3_2 < (l0_3.length : Int)) = false := decide_eq_false c18
     clear c18
     obtain rfl := Option.some.inj H
     have ⟨hcz106_0, hcz106_1, hcz106_2, hcz106_3, hfz106_0, hfz106_1, hfz106_2, hfz106_3⟩ := blk4 BK226.out
     go_wp2
     go_ret
     exact ⟨Q6, Q40⟩
end Go.Proofs.YthgkeehpoilgaaaGreatDoor.Hw
end

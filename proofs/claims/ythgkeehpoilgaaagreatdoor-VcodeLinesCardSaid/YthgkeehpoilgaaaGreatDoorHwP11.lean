import Derived.Lib.LaidTab
import Derived.Lib.ItoaNum
import Derived.Sort.Grow
import Derived.Shelf.Strconv.Itoa4
import Derived.Test.YthgkeehpoilgaaaGreatDoorHwP2
import Derived.Test.YthgkeehpoilgaaaGreatDoorHwP8
import Derived.Test.YthgkeehpoilgaaaGreatDoorHwP10
section
namespace Go.Proofs.YthgkeehpoilgaaaGreatDoor.Hw
open Go.RowKit Go.Proofs.YthgkeehpoilgaaaGreatDoorW.PrintWords Go.Proofs.YthgkeehpoilgaaaGreatDoorW.PrintLast Go.Proofs.YthgkeehpoilgaaaGreatDoorW.PrintMore
attribute [local go_sem] max2_int min2_int max_two min_two max_three min_three max_four min_four
set_option linter.unusedVariables false
set_option linter.unusedSimpArgs false
mutual
def vcode_Check.j0 : Nat → Bool → Int → Int → Bool → List (S87) → Option (Option Int)
 | 0, _, _, _, _, _ => none
 | k + 1, x36, x314000, x314001, x314002, x314003 => if x36 = true then (some (some 1)) else (vcode_Check.l0 k x314003 (x314003.length : Int) 0 x314000 x314001 x314002 x314003)
def vcode_Check.l0 : Nat → List (S87) → Int → Int → Int → Int → Bool → List (S87) → Option (Option Int)
 | 0, _, _, _, _, _, _, _ => none
 | k + 1, x39, x40, x41, x314000, x314001, x314002, x314003 => if x41 < x40 then (if 0 ≤ x41 then (if x41 < (x39.length : Int) then ((vcode_Code_whole.f k x314000 x314001 x314002 x314003 ((rd_T87 x39 x41).f0) ((rd_T87 x39 x41).f1) ((rd_T87 x39 x41).f2)).bind fun t317 => (if t317 = true then (vcode_Check.l0 k x39 x40 (wrap64 (x41 + 1)) x314000 x314001 x314002 x314003) else (some (some 1)))) else (none)) else (none)) else (some none)
end
def vcode_Check.f (k : Nat) (a0_0 : Int) (a0_1 : Int) (a0_2 : Bool) (l0_3 : List (S87)) : Option (Option Int) := if a0_0 < 0 then (vcode_Check.j0 k true a0_0 a0_1 a0_2 l0_3) else (if a0_0 > a0_1 then (vcode_Check.j0 k true a0_0 a0_1 a0_2 l0_3) else (if a0_1 > 1024 then (vcode_Check.j0 k true a0_0 a0_1 a0_2 l0_3) else (if (l0_3.length : Int) = 0 then (vcode_Check.j0 k true a0_0 a0_1 a0_2 l0_3) else (if (l0_3.length : Int) > 4096 then (vcode_Check.j0 k true a0_0 a0_1 a0_2 l0_3) else ((vcode_Size.f k a0_0 a0_1 a0_2 l0_3).bind fun t314 => (vcode_Check.j0 k (decide (t314 > 16384)) a0_0 a0_1 a0_2 l0_3))))))
set_option maxHeartbeats 8000000 in
set_option maxRecDepth 100000 in
theorem vcode_Check.calls (k : Nat) (a0_0 : Int) (a0_1 : Int) (a0_2 : Bool) (A0_3 : Option Addr) (c0_3 : Nat) (l0_3 : List (S87)) (r : Option Int) (w : World) (hr0_3 : Kd.C k87 w A0_3 l0_3.length l0_3) (hc0_3 : l0_3.length ≤ c0_3) (hG : GG [0] w) (h : vcode_Check.f k a0_0 a0_1 a0_2 l0_3 = some r) :
  Calls Tryz.prog 32 #[.agg #[.int .i64 a0_0, .int .i64 a0_1, .bool a0_2, .slice A0_3 l0_3.length c0_3]] w fun e w' => e = .returned (errW r) ∧ Below w.heap.size w w' := by
 have hu35 := Tryz.underlying35
 have hu87 := Tryz.underlying87
 have hu30 := Tryz.underlying30
 have hu104 := Tryz.underlying104
 have HR0_3 := Aside0.mk hr0_3
 have HC0_3 := Aside0.mk hc0_3
 clear hr0_3 hc0_3
 have HB := Aside0.mk (Below.refl w.heap.size w)
 have HG := Aside0.mk hG
 clear hG
 have H : (if a0_0 < 0 then (vcode_Check.j0 k true a0_0 a0_1 a0_2 l0_3) else (if a0_0 > a0_1 then (vcode_Check.j0 k true a0_0 a0_1 a0_2 l0_3) else (if a0_1 > 1024 then (vcode_Check.j0 k true a0_0 a0_1 a0_2 l0_3) else (if (l0_3.length : Int) = 0 then (vcode_Check.j0 k true a0_0 a0_1 a0_2 l0_3) else (if (l0_3.length : Int) > 4096 then (vcode_Check.j0 k true a0_0 a0_1 a0_2 l0_3) else ((vcode_Size.f k a0_0 a0_1 a0_2 l0_3).bind fun t314 => (vcode_Check.j0 k (decide (t314 > 16384)) a0_0 a0_1 a0_2 l0_3))))))) = some r := h
 clear h
 have HC2 := Aside0.mk H
 clear H
 go_enter Tryz.func32, Tryz.ntmps32
 go_upto_region 1 with (first | ((with_reducible refine gate_dst (N := 1) rfl ?_); (try (refine gate_guard Q2 ?_; dsimp only)); refine box_event ?hg (N := 1) ?hd (cs := #[.int .i64 a0_0, .int .i64 a0_1, .bool a0_2, .slice A0_3 l0_3.length c0_3]) (t := 35) ?hr ?_; (case hd => rfl); (case hg => rfl); (case hr => first | (go_simp; done) | (go_simp; rfl)); intro gb313 hg w3 hbox hb; have n0_ := Aside0.mk (below_step Q1 hb); have n1_ := Aside0.mk (hbox); have n2_ := Aside0.mk ((Q155 : w.heap.size ≤ gb313)); have n3_ := Aside0.mk ((Q155 : w.heap.size ≤ gb313)); clear HB; have HB := n0_; have BK313 := n1_; have GW313 := n2_; have GE313 := n3_; clear n0_ n1_ n2_ n3_; clear hb hbox hg))
 (try simp only [Act.put, List.setIfInBounds_toArray, List.set_cons_zero, List.set_cons_succ])
 go_cut [36] (fun v36 wc => ∃ (kq : Nat) (x36_1 : Bool), v36 = .bool x36_1 ∧ Aside0 (vcode_Check.j0 kq x36_1 a0_0 a0_1 a0_2 l0_3 = some r) ∧ Aside0 (kq ≤ k) ∧ Aside0 (wc.heap[gb313]? = some (.cells #[.int .i64 a0_0, .int .i64 a0_1, .bool a0_2, (.slice A0_3 l0_3.length c0_3)] 35 (0, 0))) ∧ Aside0 (Below w.heap.size w wc))
 case first =>
  have H := HC2.out
  clear HC2
  by_cases c4 : a0_0 < 0
  ·rw [if_pos c4] at H
   have c4b0 : decide (a0_0 < 0) = true := decide_eq_true c4
   clear c4
   (first | rw [c4b0] | (simp only [i64_w, i32_w]; rw [c4b0]) | skip)
   have H' := Aside0.mk H
   clear H
   have ⟨hcz5_0, hcz5_1, hcz5_2, hcz5_3, hfz5_0, hfz5_1, hfz5_2, hfz5_3⟩ := blk4 BK313.out
   go_wp2
   go_meet
   case rel => exact ⟨_, (true), Q3, H', ⟨Q15⟩, ⟨Q38⟩, ⟨Q35⟩⟩
  rw [if_neg c4] at H
  have c4b0 : decide (a0_0 < 0) = false := decide_eq_false c4
  clear c4
  (first | rw [c4b0] | (simp only [i64_w, i32_w]; rw [c4b0]) | skip)
  by_cases c6 : a0_0 > a0_1
  ·rw [if_pos c6] at H
   have c6b0 : decide (a0_1 < a0_0) = true := decide_eq_true c6
   clear c6
   have H' := Aside0.mk H
   clear H
   have ⟨hcz7_0, hcz7_1, hcz7_2, hcz7_3, hfz7_0, hfz7_1, hfz7_2, hfz7_3⟩ := blk4 BK313.out
   go_wp2
   go_meet
   case rel => exact ⟨_, (true), Q3, H', ⟨Q15⟩, ⟨Q38⟩, ⟨Q35⟩⟩
  rw [if_neg c6] at H
  have c6b0 : decide (a0_1 < a0_0) = false := decide_eq_false c6
  clear c6
  by_cases c8 : a0_1 > 1024
  ·rw [if_pos c8] at H
   have c8b0 : decide (1024 < a0_1) = true := decide_eq_true c8
   clear c8
   have H' := Aside0.mk H
   clear H
   have ⟨hcz9_0, hcz9_1, hcz9_2, hcz9_3, hfz9_0, hfz9_1, hfz9_2, hfz9_3⟩ := blk4 BK313.out
   go_wp2
   go_meet
   case rel => exact ⟨_, (true), Q3, H', ⟨Q15⟩, ⟨Q38⟩, ⟨Q35⟩⟩
  rw [if_neg c8] at H
  have c8b0 : decide (1024 < a0_1) = false := decide_eq_false c8
  clear c8
  by_cases c10 : (l0_3.length : Int) = 0
  ·rw [if_pos c10] at H
   have c10b0 : ((l0_3.length : Int) == 0) = true := beq_iff_eq.mpr c10
   have c10b1 : ((l0_3.length : Int) != 0) = false := bne_eq_false_iff_eq.mpr c10
   clear c10
   have H' := Aside0.mk H
   clear H
   have ⟨hcz11_0, hcz11_1, hcz11_2, hcz11_3, hfz11_0, hfz11_1, hfz11_2, hfz11_3⟩ := blk4 BK313.out
   go_wp2
   go_meet
   case rel => exact ⟨_, (true), Q3, H', ⟨Q15⟩, ⟨Q38⟩, ⟨Q35⟩⟩
  rw [if_neg c10] at H
  have c10b0 : ((l0_3.length : Int) == 0) = false := beq_eq_false_iff_ne.mpr c10
  have c10b1 : ((l0_3.length : Int) != 0) = true := bne_iff_ne.mpr c10
  have c10b2 : ¬ (l0_3 = []) := fun h_ => c10 (by rw [h_]; rfl)
  by_cases c12 : (l0_3.length : Int) > 4096
  ·rw [if_pos c12] at H
   have c12b0 : decide (4096 < (l0_3.length : Int)) = true := decide_eq_true c12
   have c12b1 : decide (4096 < l0_3.length) = true := decide_eq_true Q20
   clear c12
   have H' := Aside0.mk H
   clear H
   have ⟨hcz13_0, hcz13_1, hcz13_2, hcz13_3, hfz13_0, hfz13_1, hfz13_2, hfz13_3⟩ := blk4 BK313.out
   go_wp2
   go_meet
   case rel => exact ⟨_, (true), Q3, H', ⟨Q15⟩, ⟨Q38⟩, ⟨Q35⟩⟩
  rw [if_neg c12] at H
  have c12b0 : decide (4096 < (l0_3.length : Int)) = false := decide_eq_false c12
  have c12b1 : decide (4096 < l0_3.length) = false := decide_eq_false Q20
  clear c12
  replace H := Option.bind_eq_some_iff.mp H
  obtain ⟨t314, A140, H⟩ := H
  replace H : (vcode_Check.j0 k (decide (t314 > 16384)) a0_0 a0_1 a0_2 l0_3) = some r := H
  have A14 := Aside0.mk A140
  clear A140
  have H' := Aside0.mk H
  clear H
  have ⟨hcz15_0, hcz15_1, hcz15_2, hcz15_3, hfz15_0, hfz15_1, hfz15_2, hfz15_3⟩ := blk4 BK313.out
  go_wp2_with (first | (go_at_call 33; (with_reducible refine (vcode_Size.calls k a0_0 a0_1 a0_2 _ _ l0_3 t314 _ ?side1 ?side2 ?side3 A14.out).mono ?_); (case side1 => repeat (first | exact (Kd.C_below HR0_3.out HB.out) | (with_reducible refine Kd.C_alloc ?_ _) | (with_reducible refine Kd.C_drewN ?_ _) | (with_reducible refine Kd.C_drew ?_))); (case side2 => exact HC0_3.out); (case side3 => exact GG.nil _); rintro e w16 ⟨rfl, hb⟩; have n0_ := Aside0.mk (blk_below (g := gb313) (o := .cells #[.int .i64 a0_0, .int .i64 a0_1, .bool a0_2, .slice A0_3 l0_3.length c0_3] 35 (0, 0)) Q38 hb); have n1_ := Aside0.mk (below_step Q35 hb); clear BK313; clear HB; have BK313 := n0_; have HB := n1_; clear n0_ n1_; (try clear hb); (try clear hb2); (try clear hk); (try clear hi)))
  go_meet
  case rel => exact ⟨_, (decide (t314 > 16384)), Q3, H', ⟨Q15⟩, ⟨Q38⟩, ⟨Q35⟩⟩
 case rest =>
  clear HC2
  obtain ⟨kq, x36_1, rfl, HA, HJ1, BK313, HB⟩ := hcut
  cases kq with
  | zero => exact absurd HA.out (by simp [vcode_Check.j0])
  | succ kj1 =>
   have H := HA.out
   clear HA
   simp only [vcode_Check.j0] at H
   by_cases c17 : x36_1 = true
   ·subst c17
    have H1 : (some (some 1)) = some r := Q14
    clear H
    have H := H1
    clear H1
    obtain rfl := Option.some.inj H
    go_wp2
    go_ret
    exact ⟨Q6, Q35⟩
   replace c17 := Bool.eq_false_iff.mpr c17
   subst c17
   have H1 : (vcode_Check.l0 kj1 l0_3 (l0_3.length : Int) 0 a0_0 a0_1 a0_2 l0_3) = some r := by rw [if_neg (show ¬ (false = true) by decide)] at H; exact H
   clear H
   have H := H1
   clear H1
   have H' := Aside0.mk H
   clear H
   have ⟨hcz18_0, hcz18_1, hcz18_2, hcz18_3, hfz18_0, hfz18_1, hfz18_2, hfz18_3⟩ := blk4 BK313.out
   go_wp2
   go_loopg [41] kj1 (fun kq v41 w' => ∃ (x41_2 : Int), v41 = .int .i64 x41_2 ∧ Aside0 (vcode_Check.l0 kq l0_3 (l0_3.length : Int) x41_2 a0_0 a0_1 a0_2 l0_3 = some r) ∧ Aside0 (kq ≤ kj1) ∧ Aside0 (w'.heap[gb313]? = some (.cells #[.int .i64 a0_0, .int .i64 a0_1, .bool a0_2, (.slice A0_3 l0_3.length c0_3)] 35 (0, 0))) ∧ Aside0 (Below w.heap.size w w'))
   case atStart => exact ⟨(0), Q3, H', ⟨Nat.le_refl _⟩, ⟨Q38⟩, ⟨Q35⟩⟩
   case round =>
    clear H'
    try clear c17
    try clear hcz18_0 hcz18_1 hcz18_2 hcz18_3 hfz18_0 hfz18_1 hfz18_2 hfz18_3
    obtain ⟨x41_2, rfl, HA, HK2, BK313, HB⟩ := hrel
    cases gk with
    | zero => exact absurd HA.out (by simp [vcode_Check.l0])
    | succ k2 =>
     have H := HA.out
     clear HA
     simp only [vcode_Check.l0] at H
     by_cases c19 : x41_2 < (l0_3.length : Int)
     ·rw [if_pos c19] at H
      have c19b0 : decide (x41_2 < (l0_3.length : Int)) = true := decide_eq_true c19
      clear c19
      by_cases c20 : 0 ≤ x41_2
      ·rw [if_pos c20] at H
       have c20b0 : decide (0 ≤ x41_2) = true := decide_eq_true c20
       clear c20
       by_cases c21 : x41_2 < (l0_3.length : Int)
       ·rw [if_pos c21] at H
        have c21b0 : decide (x41_2 < (l0_3.length : Int)) = true := decide_eq_true c21
        clear c21
        replace H := Option.bind_eq_some_iff.mp H
        obtain ⟨t317, A220, H⟩ := H
        replace H : (if t317 = true then (vcode_Check.l0 k2 l0_3 (l0_3.length : Int) (wrap64 (x41_2 + 1)) a0_0 a0_1 a0_2 l0_3) else (some (some 1))) = some r := H
        have A22 := Aside0.mk A220
        clear A220
        by_cases c23 : t317 = true
        ·subst c23
         have H1 : (vcode_Check.l0 k2 l0_3 (l0_3.length : Int) (wrap64 (x41_2 + 1)) a0_0 a0_1 a0_2 l0_3) = some r := Q14
         clear H
         have H := H1
         clear H1
         have H' := Aside0.mk H
         clear H
         have p315 : 0 ≤ (x41_2 : Int) := of_decide_eq_true Q4
         have q315 : x41_2 < (l0_3.length : Int) := of_decide_eq_true Q4
         obtain ⟨ad315, A315_0, c315_0, A315_1, c315_1, e315, hx315_0, hx315_1, hx315_2, hl315_0, hi315_0, hl315_1, hi315_1⟩ := at_T87 HR0_3.out x41_2 p315 q315
         cases e315
         replace hx315_0 := (HB.out.cell (World.block_lt_of_cell? w _ hx315_0)).trans hx315_0
         replace hx315_1 := (HB.out.cell (World.block_lt_of_cell? w _ hx315_1)).trans hx315_1
         replace hx315_2 := (HB.out.cell (World.block_lt_of_cell? w _ hx315_2)).trans hx315_2
         have HR315_0 := Aside0.mk hi315_0
         have HC315_0 := Aside0.mk hl315_0
         clear hi315_0 hl315_0
         have HR315_1 := Aside0.mk hi315_1
         have HC315_1 := Aside0.mk hl315_1
         clear hi315_1 hl315_1
         replace p315 := eq_true p315
         replace q315 := eq_true q315
         go_wp2_with (first | ((with_reducible refine gate_dst (N := 4) rfl ?_); (try (refine gate_guard Q2 ?_; dsimp only)); refine box_event ?hg (N := 4) ?hd (cs := #[.slice none 0 0, .slice none 0 0, .int .i64 0]) (t := 87) ?hr ?_; (case hd => rfl); (case hg => rfl); (case hr => first | (go_simp; done) | (go_simp; rfl)); intro gb316 hg w24 hbox hb; have n0_ := Aside0.mk (blk_below (g := gb313) (o := .cells #[.int .i64 a0_0, .int .i64 a0_1, .bool a0_2, .slice (some ad315) l0_3.length c0_3] 35 (0, 0)) Q38 hb); have n1_ := Aside0.mk (below_step Q35 hb); have n2_ := Aside0.mk (hbox); have n3_ := Aside0.mk ((Q171 : w.heap.size ≤ gb316)); have n4_ := Aside0.mk ((Q171 : w.heap.size ≤ gb316)); have n5_ := Aside0.mk ((Q175 : gb313 ≠ gb316)); have n6_ := Aside0.mk ((Q176 : gb316 ≠ gb313)); clear BK313; clear HB; have BK313 := n0_; have HB := n1_; have BK316 := n2_; have GW316 := n3_; have GE316 := n4_; have NB313_316 := n5_; have NB316_313 := n6_; clear n0_ n1_ n2_ n3_ n4_ n5_ n6_; clear hb hbox hg; have hnb25 := NB316_313.out; have hnc25 := NB313_316.out; have hcz26_0 : w24.cell? ⟨gb316, 0, none⟩ = some (.slice none 0 0) := (blk_cell BK316.out 0).trans rfl; have hcz26_1 : w24.cell? ⟨gb316, 1, none⟩ = some (.slice none 0 0) := (blk_cell BK316.out 1).trans rfl; have hcz26_2 : w24.cell? ⟨gb316, 2, none⟩ = some (.int .i64 0) := (blk_cell BK316.out 2).trans rfl; have hfz26_0 := blk_frozen BK316.out 0; have hfz26_1 := blk_frozen BK316.out 1; have hfz26_2 := blk_frozen BK316.out 2; have hcz27_0 : w24.cell? ⟨gb313, 0, none⟩ = some (.int .i64 a0_0) := (blk_cell BK313.out 0).trans rfl; have hcz27_1 : w24.cell? ⟨gb313, 1, none⟩ = some (.int .i64 a0_1) := (blk_cell BK313.out 1).trans rfl; have hcz27_2 : w24.cell? ⟨gb313, 2, none⟩ = some (.bool a0_2) := (blk_cell BK313.out 2).trans rfl; have hcz27_3 : w24.cell? ⟨gb313, 3, none⟩ = some (.slice (some ad315) l0_3.length c0_3) := (blk_cell BK313.out 3).trans rfl; have hfz27_0 := blk_frozen BK313.out 0; have hfz27_1 := blk_frozen BK313.out 1; have hfz27_2 := blk_frozen BK313.out 2; have hfz27_3 := blk_frozen BK313.out 3) | ((with_reducible refine gate_callee (f := 63) rfl ?_); refine goesL_ (some 47) rfl rfl Tryz.func63 Q0 rfl #[.agg #[.int .i64 a0_0, .int .i64 a0_1, .bool a0_2, .slice (some ad315) l0_3.length c0_3], .agg #[.slice A315_0 ((rd_T87 l0_3 x41_2).f0).length c315_0, .slice A315_1 ((rd_T87 l0_3 x41_2).f1).length c315_1, .int .i64 ((rd_T87 l0_3 x41_2).f2)]] rfl Q9 ?_; (with_reducible refine (vcode_Code_whole.calls k2 a0_0 a0_1 a0_2 _ _ l0_3 _ _ ((rd_T87 l0_3 x41_2).f0) _ _ ((rd_T87 l0_3 x41_2).f1) ((rd_T87 l0_3 x41_2).f2) true _ ?side1 ?side2 ?side3 ?side4 ?side5 ?side6 ?side7 A22.out).mono ?_); (case side1 => exact Kd.C_below HR0_3.out Q41); (case side2 => exact HC0_3.out); (case side3 => exact Kd.C_below HR315_0.out Q41); (case side4 => exact HC315_0.out); (case side5 => exact Kd.C_below HR315_1.out Q41); (case side6 => exact HC315_1.out); (case side7 => exact GG.below Q41 HG.out); rintro e w28 ⟨rfl, hb⟩; refine ⟨_, rfl, ?_⟩; have n0_ := Aside0.mk (blk_below (g := gb313) (o := .cells #[.int .i64 a0_0, .int .i64 a0_1, .bool a0_2, .slice (some ad315) l0_3.length c0_3] 35 (0, 0)) Q121 hb); have n1_ := Aside0.mk (blk_below (g := gb316) (o := .cells #[.slice A315_0 ((rd_T87 l0_3 x41_2).f0).length c315_0, .slice A315_1 ((rd_T87 l0_3 x41_2).f1).length c315_1, .int .i64 ((rd_T87 l0_3 x41_2).f2)] 87 (0, 0)) Q122 hb); have n2_ := Aside0.mk (below_step Q41 hb); clear BK313; clear BK316; clear HB; have BK313 := n0_; have BK316 := n1_; have HB := n2_; clear n0_ n1_ n2_; (try clear hb); (try clear hb2); (try clear hk); (try clear hi)))
         go_roundg k2
         case measure => have := HJ1.out; have := HK2.out; omega
         case rel => exact ⟨(wrap64 (x41_2 + 1)), Q3, H', ⟨Q33⟩, ⟨Q38⟩, ⟨Q41⟩⟩
        replace c23 := Bool.eq_false_iff.mpr c23
        subst c23
        have H1 : (some (some 1)) = some r := by rw [if_neg (show ¬ (false = true) by decide)] at H; exact H
        clear H
        have H := H1
        clear H1
        obtain rfl := Option.some.inj H
        have p315 : 0 ≤ (x41_2 : Int) := of_decide_eq_true Q4
        have q315 : x41_2 < (l0_3.length : Int) := of_decide_eq_true Q4
        obtain ⟨ad315, A315_0, c315_0, A315_1, c315_1, e315, hx315_0, hx315_1, hx315_2, hl315_0, hi315_0, hl315_1, hi315_1⟩ := at_T87 HR0_3.out x41_2 p315 q315
        cases e315
        replace hx315_0 := (HB.out.cell (World.block_lt_of_cell? w _ hx315_0)).trans hx315_0
        replace hx315_1 := (HB.out.cell (World.block_lt_of_cell? w _ hx315_1)).trans hx315_1
        replace hx315_2 := (HB.out.cell (World.block_lt_of_cell? w _ hx315_2)).trans hx315_2
        have HR315_0 := Aside0.mk hi315_0
        have HC315_0 := Aside0.mk hl315_0
        clear hi315_0 hl315_0
        have HR315_1 := Aside0.mk hi315_1
        have HC315_1 := Aside0.mk hl315_1
        clear hi315_1 hl315_1
        replace p315 := eq_true p315
        replace q315 := eq_true q315
        go_wp2_with (first | ((with_reducible refine gate_dst (N := 4) rfl ?_); (try (refine gate_guard Q2 ?_; dsimp only)); refine box_event ?hg (N := 4) ?hd (cs := #[.slice none 0 0, .slice none 0 0, .int .i64 0]) (t := 87) ?hr ?_; (case hd => rfl); (case hg => rfl); (case hr => first | (go_simp; done) | (go_simp; rfl)); intro gb316 hg w29 hbox hb; have n0_ := Aside0.mk (blk_below (g := gb313) (o := .cells #[.int .i64 a0_0, .int .i64 a0_1, .bool a0_2, .slice (some ad315) l0_3.length c0_3] 35 (0, 0)) Q38 hb); have n1_ := Aside0.mk (below_step Q35 hb); have n2_ := Aside0.mk (hbox); have n3_ := Aside0.mk ((Q171 : w.heap.size ≤ gb316)); have n4_ := Aside0.mk ((Q171 : w.heap.size ≤ gb316)); have n5_ := Aside0.mk ((Q175 : gb313 ≠ gb316)); have n6_ := Aside0.mk ((Q176 : gb316 ≠ gb313)); clear BK313; clear HB; have BK313 := n0_; have HB := n1_; have BK316 := n2_; have GW316 := n3_; have GE316 := n4_; have NB313_316 := n5_; have NB316_313 := n6_; clear n0_ n1_ n2_ n3_ n4_ n5_ n6_; clear hb hbox hg; have hnb30 := NB316_313.out; have hnc30 := NB313_316.out; have hcz31_0 : w29.cell? ⟨gb316, 0, none⟩ = some (.slice none 0 0) := (blk_cell BK316.out 0).trans rfl; have hcz31_1 : w29.cell? ⟨gb316, 1, none⟩ = some (.slice none 0 0) := (blk_cell BK316.out 1).trans rfl; have hcz31_2 : w29.cell? ⟨gb316, 2, none⟩ = some (.int .i64 0) := (blk_cell BK316.out 2).trans rfl; have hfz31_0 := blk_frozen BK316.out 0; have hfz31_1 := blk_frozen BK316.out 1; have hfz31_2 := blk_frozen BK316.out 2; have hcz32_0 : w29.cell? ⟨gb313, 0, none⟩ = some (.int .i64 a0_0) := (blk_cell BK313.out 0).trans rfl; have hcz32_1 : w29.cell? ⟨gb313, 1, none⟩ = some (.int .i64 a0_1) := (blk_cell BK313.out 1).trans rfl; have hcz32_2 : w29.cell? ⟨gb313, 2, none⟩ = some (.bool a0_2) := (blk_cell BK313.out 2).trans rfl; have hcz32_3 : w29.cell? ⟨gb313, 3, none⟩ = some (.slice (some ad315) l0_3.length c0_3) := (blk_cell BK313.out 3).trans rfl; have hfz32_0 := blk_frozen BK313.out 0; have hfz32_1 := blk_frozen BK313.out 1; have hfz32_2 := blk_frozen BK313.out 2; have hfz32_3 := blk_frozen BK313.out 3) | ((with_reducible refine gate_callee (f := 63) rfl ?_); refine goesL_ (some 47) rfl rfl Tryz.func63 Q0 rfl #[.agg #[.int .i64 a0_0, .int .i64 a0_1, .bool a0_2, .slice (some ad315) l0_3.length c0_3], .agg #[.slice A315_0 ((rd_T87 l0_3 x41_2).f0).length c315_0, .slice A315_1 ((rd_T87 l0_3 x41_2).f1).length c315_1, .int .i64 ((rd_T87 l0_3 x41_2).f2)]] rfl Q9 ?_; (with_reducible refine (vcode_Code_whole.calls k2 a0_0 a0_1 a0_2 _ _ l0_3 _ _ ((rd_T87 l0_3 x41_2).f0) _ _ ((rd_T87 l0_3 x41_2).f1) ((rd_T87 l0_3 x41_2).f2) false _ ?side1 ?side2 ?side3 ?side4 ?side5 ?side6 ?side7 A22.out).mono ?_); (case side1 => exact Kd.C_below HR0_3.out Q41); (case side2 => exact HC0_3.out); (case side3 => exact Kd.C_below HR315_0.out Q41); (case side4 => exact HC315_0.out); (case side5 => exact Kd.C_below HR315_1.out Q41); (case side6 => exact HC315_1.out); (case side7 => exact GG.below Q41 HG.out); rintro e w33 ⟨rfl, hb⟩; refine ⟨_, rfl, ?_⟩; have n0_ := Aside0.mk (blk_below (g := gb313) (o := .cells #[.int .i64 a0_0, .int .i64 a0_1, .bool a0_2, .slice (some ad315) l0_3.length c0_3] 35 (0, 0)) Q121 hb); have n1_ := Aside0.mk (blk_below (g := gb316) (o := .cells #[.slice A315_0 ((rd_T87 l0_3 x41_2).f0).length c315_0, .slice A315_1 ((rd_T87 l0_3 x41_2).f1).length c315_1, .int .i64 ((rd_T87 l0_3 x41_2).f2)] 87 (0, 0)) Q122 hb); have n2_ := Aside0.mk (below_step Q41 hb); clear BK313; clear BK316; clear HB; have BK313 := n0_; have BK316 := n1_; have HB := n2_; clear n0_ n1_ n2_; (try clear hb); (try clear hb2); (try clear hk); (try clear hi)))
        go_ret
        exact ⟨Q6, Q41⟩
       rw [if_neg c21] at H
       exact absurd H Q8
      rw [if_neg c20] at H
      exact absurd H Q8
     rw [if_neg c19] at H
     have c19b0 : decide (x41_2 < (l0_3.length : Int)) = false := decide_eq_false c19
     clear c19
     obtain rfl := Option.some.inj H
     go_wp2
     go_ret
     exact ⟨Q6, Q35⟩
theorem pow10_is : Lib.pow10Tab = gtab4 := by decide +kernel
theorem pow10_tab {w : World} (hG : GG [4] w) : Lib.TabIs Tryz.prog w "internal/strconv.uint64pow10" .u64 Lib.pow10Tab := by
  obtain ⟨t, sh, h⟩ := hG 4 (by simp)
  rw [pow10_is]
  unfold Lib.TabIs World.var?
  rw [show Tryz.prog.globalNamed "internal/strconv.uint64pow10" = some 2 by kernel_rfl]
  simp only [Option.bind_some]
  rw [h]
theorem grow_below {w w' : World} (h : ∃ k os, w' = Go.Sort.grow (w.drewN k) os) : Below w.heap.size w w' := by
  obtain ⟨k, os, rfl⟩ := h
  refine ⟨rfl, rfl, rfl, ?_, ?_⟩
  · show w.heap.size ≤ (w.heap ++ os).size
    simp
  · intro i hi
    show (w.heap ++ os)[i]? = w.heap[i]?
    rw [Array.getElem?_append_left hi]
def itoaF (a0 : Int) : Option ByteArray := if -9223372036854775808 ≤ a0 ∧ a0 ≤ 9223372036854775807 then some ⟨(Lib.itoa a0).toArray⟩ else none
def strconv_Itoa.f (a0 : Int) : Option ByteArray := itoaF a0
theorem strconv_Itoa.calls (a0 : Int) (r : ByteArray) (w : World) (hG : GG [4] w) (h : strconv_Itoa.f a0 = some r) :
    Calls Tryz.prog 43 #[.int .i64 a0] w fun e w' => e = .returned (.string r) ∧ Below w.heap.size w w' := by
  unfold strconv_Itoa.f itoaF at h
  by_cases hr : -9223372036854775808 ≤ a0 ∧ a0 ≤ 9223372036854775807
  · rw [if_pos hr] at h
    obtain rfl := Option.some.inj h
    exact (Tryz.strconv_Itoa a0 hr.1 hr.2 w (pow10_tab hG)).mono fun e w' h => ⟨h.1, grow_below h.2⟩
  · rw [if_neg hr] at h
    cases h
def strconv_FormatInt.f (a0 a1 : Int) : Option ByteArray := if a1 = 10 then itoaF a0 else none
theorem strconv_FormatInt.calls (a0 a1 : Int) (r : ByteArray) (w : World) (hG : GG [4] w) (h : strconv_FormatInt.f a0 a1 = some r) :
    Calls Tryz.prog 77 #[.int .i64 a0, .int .i64 a1] w fun e w' => e = .returned (.string r) ∧ Below w.heap.size w w' := by
  unfold strconv_FormatInt.f itoaF at h
  by_cases h10 : a1 = 10
  · rw [if_pos h10] at h
    subst h10
    by_cases hr : -9223372036854775808 ≤ a0 ∧ a0 ≤ 9223372036854775807
    · rw [if_pos hr] at h
      obtain rfl := Option.some.inj h
      exact (Tryz.strconv_FormatInt_10 a0 hr.1 hr.2 w (pow10_tab hG)).mono fun e w' h => ⟨h.1, grow_below h.2⟩
    · rw [if_neg hr] at h
      cases h
  · rw [if_neg h10] at h
    cases h
def vcode_reg.f (a0 : Int) : Option (ByteArray) := (strconv_Itoa.f a0).bind fun t318 => (if 1 + t318.size ≤ 9223372036854775807 then (some ((⟨#[114]⟩ : ByteArray) ++ t318)) else (none))
set_option maxHeartbeats 8000000 in
set_option maxRecDepth 100000 in
theorem vcode_reg.calls (a0 : Int) (r : ByteArray) (w : World) (hG : GG [4] w) (h : vcode_reg.f a0 = some r) :
  Calls Tryz.prog 75 #[.int .i64 a0] w fun e w' => e = .returned (.string r) ∧ Below w.heap.size w w' := by
 have HB := Aside0.mk (Below.refl w.heap.size w)
 have HG := Aside0.mk hG
 clear hG
 have H : ((strconv_Itoa.f a0).bind fun t318 => (if 1 + t318.size ≤ 9223372036854775807 then (some ((⟨#[114]⟩ : ByteArray) ++ t318)) else (none))) = some r := h
 clear h
 replace H := Option.bind_eq_some_iff.mp H
 obtain ⟨t318, A20, H⟩ := H
 replace H : (if 1 + t318.size ≤ 9223372036854775807 then (some ((⟨#[114]⟩ : ByteArray) ++ t318)) else (none)) = some r := H
 have A2 := Aside0.mk A20
 clear A20
 by_cases c3 : 1 + t318.size ≤ 9223372036854775807
 ·rw [if_pos c3] at H
  have c3b0 := eq_true c3
  have c3b1 : decide (1 + t318.size ≤ 9223372036854775807) = true := decide_eq_true c3
  try have c3b2 : (9223372036854775807 < 1 + t318.size) = False := eq_false (Nat.not_lt.2 c3)
  obtain rfl := Option.some.inj H
  go_enter Tryz.func75, Tryz.ntmps75
  go_wp2_with (first | ((with_reducible refine gate_callee (f := 43) rfl ?_); refine goesL_ (some 4) rfl rfl Tryz.func43 Q0 rfl #[.int .i64 a0] rfl Q9 ?_; (with_reducible refine (strconv_Itoa.calls a0 t318 _ ?side1 A2.out).mono ?_); (case side1 => exact GG.below Q1 HG.out); rintro e w4 ⟨rfl, hb⟩; refine ⟨_, rfl, ?_⟩; have n0_ := Aside0.mk (below_step Q1 hb); clear HB; have HB := n0_; clear n0_; (try clear hb); (try clear hb2); (try clear hk); (try clear hi)))
  go_ret
  exact ⟨Q6, Q1⟩
 rw [if_neg c3] at H
 exact absurd H Q8
def vcode_nameOf.f (a0 : Int) : Option (ByteArray) := if a0 = 66 then (some (⟨#[99, 111, 110, 115, 116]⟩ : ByteArray)) else (if a0 = 192 then (some (⟨#[109, 111, 118, 101]⟩ : ByteArray)) else (if a0 = 193 then (some (⟨#[106, 117, 109, 112]⟩ : ByteArray)) else (if a0 = 194 then (some (⟨#[98, 114, 97, 110, 99, 104]⟩ : ByteArray)) else (if a0 = 195 then (some (⟨#[116, 97, 98, 108, 101]⟩ : ByteArray)) else ((ops_Name.f a0).bind fun t319 => (some t319))))))
set_option maxHeartbeats 8000000 in
set_option maxRecDepth 100000 in
theorem vcode_nameOf.calls (a0 : Int) (r : ByteArray) (w : World) (hG : GG [] w) (h : vcode_nameOf.f a0 = some r) :
  Calls Tryz.prog 76 #[.int .u8 a0] w fun e w' => e = .returned (.string r) ∧ Below w.heap.size w w' := by
 have HB := Aside0.mk (Below.refl w.heap.size w)
 have HG := Aside0.mk hG
 clear hG
 have H : (if a0 = 66 then (some (⟨#[99, 111, 110, 115, 116]⟩ : ByteArray)) else (if a0 = 192 then (some (⟨#[109, 111, 118, 101]⟩ : ByteArray)) else (if a0 = 193 then (some (⟨#[106, 117, 109, 112]⟩ : ByteArray)) else (if a0 = 194 then (some (⟨#[98, 114, 97, 110, 99, 104]⟩ : ByteArray)) else (if a0 = 195 then (some (⟨#[116, 97, 98, 108, 101]⟩ : ByteArray)) else ((ops_Name.f a0).bind fun t319 => (some t319))))))) = some r := h
 clear h
 by_cases c2 : a0 = 66
 ·rw [if_pos c2] at H
  have c2b0 : (a0 == 66) = true := beq_iff_eq.mpr c2
  have c2b1 : (a0 != 66) = false := bne_eq_false_iff_eq.mpr c2
  clear c2
  obtain rfl := Option.some.inj H
  go_enter Tryz.func76, Tryz.ntmps76
  go_wp2
  go_ret
  exact ⟨Q6, Q1⟩
 rw [if_neg c2] at H
 have c2b0 : (a0 == 66) = false := beq_eq_false_iff_ne.mpr c2
 have c2b1 : (a0 != 66) = true := bne_iff_ne.mpr c2
 by_cases c3 : a0 = 192
 ·rw [if_pos c3] at H
  have c3b0 : (a0 == 192) = true := beq_iff_eq.mpr c3
  have c3b1 : (a0 != 192) = false := bne_eq_false_iff_eq.mpr c3
  clear c3
  obtain rfl := Option.some.inj H
  go_enter Tryz.func76, Tryz.ntmps76
  go_wp2
  go_ret
  exact ⟨Q6, Q1⟩
 rw [if_neg c3] at H
 have c3b0 : (a0 == 192) = false := beq_eq_false_iff_ne.mpr c3
 have c3b1 : (a0 != 192) = true := bne_iff_ne.mpr c3
 by_cases c4 : a0 = 193
 ·rw [if_pos c4] at H
  have c4b0 : (a0 == 193) = true := beq_iff_eq.mpr c4
  have c4b1 : (a0 != 193) = false := bne_eq_false_iff_eq.mpr c4
  clear c4
  obtain rfl := Option.some.inj H
  go_enter Tryz.func76, Tryz.ntmps76
  go_wp2
  go_ret
  exact ⟨Q6, Q1⟩
 rw [if_neg c4] at H
 have c4b0 : (a0 == 193) = false := beq_eq_false_iff_ne.mpr c4
 have c4b1 : (a0 != 193) = true := bne_iff_ne.mpr c4
 by_cases c5 : a0 = 194
 ·rw [if_pos c5] at H
  have c5b0 : (a0 == 194) = true := beq_iff_eq.mpr c5
  have c5b1 : (a0 != 194) = false := bne_eq_false_iff_eq.mpr c5
  clear c5
  obtain rfl := Option.some.inj H
  go_enter Tryz.func76, Tryz.ntmps76
  go_wp2
  go_ret
  exact ⟨Q6, Q1⟩
 rw [if_neg c5] at H
 have c5b0 : (a0 == 194) = false := beq_eq_false_iff_ne.mpr c5
 have c5b1 : (a0 != 194) = true := bne_iff_ne.mpr c5
 by_cases c6 : a0 = 195
 ·rw [if_pos c6] at H
  have c6b0 : (a0 == 195) = true := beq_iff_eq.mpr c6
  have c6b1 : (a0 != 195) = false := bne_eq_false_iff_eq.mpr c6
  clear c6
  obtain rfl := Option.some.inj H
  go_enter Tryz.func76, Tryz.ntmps76
  go_wp2
  go_ret
  exact ⟨Q6, Q1⟩
 rw [if_neg c6] at H
 have c6b0 : (a0 == 195) = false := beq_eq_false_iff_ne.mpr c6
 have c6b1 : (a0 != 195) = true := bne_iff_ne.mpr c6
 replace H := Option.bind_eq_some_iff.mp H
 obtain ⟨t319, A70, H⟩ := H
 replace H : (some t319) = some r := H
 have A7 := Aside0.mk A70
 clear A70
 obtain rfl := Option.some.inj H
 go_enter Tryz.func76, Tryz.ntmps76
 go_wp2_with (first | ((with_reducible refine gate_callee (f := 98) rfl ?_); refine goesL_ (some 15) rfl rfl Tryz.func98 Q0 rfl #[.int .u8 a0] rfl Q9 ?_; (with_reducible refine (ops_Name.calls a0 t319 _ ?side1 A7.out).mono ?_); (case side1 => exact GG.nil _); rintro e w8 ⟨rfl, hb⟩; refine ⟨_, rfl, ?_⟩; have n0_ := Aside0.mk (below_step Q1 hb); clear HB; have HB := n0_; clear n0_; (try clear hb); (try clear hb2); (try clear hk); (try clear hi)))
 go_ret
 exact ⟨Q6, Q1⟩
theorem fmtUint_small (n : Nat) (hn : n < 100) (w : World) :
    Calls Tryz.prog 101 #[.int .u64 n, .int .i64 10] w fun e w' => e = .returned (.string ⟨(Lib.decDigits n).toArray⟩) ∧ Below w.heap.size w w' := by
  have hw : wrap64 (n : Int) = (n : Int) := by unfold wrap64; omega
  have hb : decide ((n : Int) < 100) = true := decide_eq_true (by omega)
  go_enter Tryz.func101, Tryz.ntmps101
  go_wp2_with (first | (go_at_call 110; refine (Tryz.internal_strconv_small n hn _).mono ?_; rintro e w1 ⟨rfl, rfl⟩))
  go_ret
  exact ⟨rfl, by repeat (first | exact Below.refl _ _ | apply below_alloc)⟩
theorem holds_zero0 (w : World) (T : TypeId) (nd : Nat) (hs : nd ≤ 24) : Go.Sort.Holds (fun (b : UInt8) => Value.int .u8 (b.toNat : Int)) (w.alloc (.cells Lib.zeros24 T)) w.heap.size 0 (Array.replicate nd (0 : UInt8)) := fun j hj => by
  have hj' : j < nd := by simpa using hj
  refine ⟨?_, World.frozen?_alloc_new _ _ _ _⟩
  rw [World.cell?_alloc_new, Lib.zeros24_at _ (by omega), getElem!_pos _ j hj]
  simp
theorem fin_pos0 (w : World) (o : Obj) (dk : Array UInt8) (k : Nat) : ∃ os, (Go.Sort.putRow (fun (b : UInt8) => Value.int .u8 (b.toNat : Int)) (w.alloc o) w.heap.size 0 dk).drewN k = Go.Sort.grow (w.drewN k) os := by
  rw [Go.Sort.alloc_eq_grow]
  obtain ⟨os', _, e⟩ := Go.Sort.putRow_grow_new (fun (b : UInt8) => Value.int .u8 (b.toNat : Int)) w #[o] w.heap.size 0 dk (Nat.le_refl _)
  exact ⟨os', by rw [e]; rfl⟩
set_option maxHeartbeats 6400000 in
set_option maxRecDepth 100000 in
theorem fmtUint_pos (u : Nat) (hu1 : 100 ≤ u) (hu64 : u < 18446744073709551616) (w : World) (htab : Lib.TabIs Tryz.prog w "internal/strconv.uint64pow10" .u64 Lib.pow10Tab) :
    Calls Tryz.prog 101 #[.int .u64 u, .int .i64 10] w fun e w' => e = .returned (.string ⟨(Lib.decDigits u).toArray⟩) ∧ Below w.heap.size w w' := by
  have hu0 : 1 ≤ u := by omega
  have hnd20 : Lib.nDigits u ≤ 20 := by have := Lib.numDigits_eq u hu0 hu64; split at this <;> omega
  have hb3 : Lib.nDigits u ≤ 24 := by omega
  have hal : Tryz.prog.arrayLen 242 = 24 := by simp [Program.arrayLen, Tryz.underlying242]
  have hsl1 : ∀ W, (Instr.sliceAt 242 (.pointer (some ⟨w.heap.size, 0, none⟩)) none (some (.int .i64 (Lib.nDigits u : Int))) none).run Tryz.prog W = .ok (.slice (some ⟨w.heap.size, 0, none⟩) (Lib.nDigits u) 24) W := fun W => by
    rw [run_sliceAt_array_h W 242 ⟨w.heap.size, 0, none⟩ (by simp [Program.arrayLen, Program.elem, Tryz.underlying242]) .i64 (Lib.nDigits u : Int) (by omega) (by rw [hal]; omega)]
    go_simp
  have hH0 := holds_zero0 w 242 (Lib.nDigits u) (by omega)
  have hfmt := Any.internal_strconv_formatBase10 { Tryz.laysM173 with } w.heap.size 0 24 u (Array.replicate (Lib.nDigits u) 0) (w.alloc (.cells Lib.zeros24 242)) hH0 (by rw [Array.size_replicate]; exact Lib.lt_pow_nDigits u) hu64 (by rw [Array.size_replicate]; omega)
  rw [Array.size_replicate] at hfmt
  have hfmt : Calls Tryz.prog 112 #[.slice (some ⟨w.heap.size, 0, none⟩) (Lib.nDigits u) 24, .int .u64 u] (w.alloc (.cells Lib.zeros24 242)) fun e w' =>
      e = .returned (.tuple #[]) ∧ ∃ (n v' : Nat) (dk : Array UInt8), w' = (Go.Sort.putRow (fun (b : UInt8) => Value.int .u8 (b.toNat : Int)) (w.alloc (.cells Lib.zeros24 242)) w.heap.size 0 dk).drewN n ∧ Lib.FmtInv (Lib.nDigits u) u 0 v' dk := hfmt
  have hnum : Calls Tryz.prog 111 #[.int .u64 u] (w.alloc (.cells Lib.zeros24 242)) fun e w' => e = .returned (.int .i64 (Lib.nDigits u)) ∧ w' = w.alloc (.cells Lib.zeros24 242) :=
    Any.internal_strconv_numDigits { Tryz.laysM173 with } u hu0 hu64 _ (Lib.tabIs_alloc htab _)
  have HH0 := Lib.hid hH0
  have HN := Lib.hid hnum
  have HF := Lib.hid hfmt
  have hb : decide ((u : Int) < 100) = false := decide_eq_false (by omega)
  clear hH0 hal hnum hfmt htab
  go_enter Tryz.func101, Tryz.ntmps101
  go_wp2_with (first | (go_at_call 111; refine HN.out.mono ?_; rintro e w' ⟨rfl, rfl⟩))
  go_at_call 112
  refine HF.out.mono ?_
  rintro e w' ⟨rfl, k, v', dk, rfl, hF⟩
  have hcv : (convert 111 9 (.slice (some ⟨w.heap.size, 0, none⟩) (Lib.nDigits u) 24)).run Tryz.prog ((Go.Sort.putRow (fun (b : UInt8) => Value.int .u8 (b.toNat : Int)) (w.alloc (.cells Lib.zeros24 242)) w.heap.size 0 dk).drewN k) = .ok (.string ⟨(Lib.decDigits u).toArray⟩) ((Go.Sort.putRow (fun (b : UInt8) => Value.int .u8 (b.toNat : Int)) (w.alloc (.cells Lib.zeros24 242)) w.heap.size 0 dk).drewN k) := by
    have h := run_convert_bytes_back (P := Tryz.prog) ((Go.Sort.putRow (fun (b : UInt8) => Value.int .u8 (b.toNat : Int)) (w.alloc (.cells Lib.zeros24 242)) w.heap.size 0 dk).drewN k) 111 9 5 ⟨w.heap.size, 0, none⟩ 24 (Lib.decDigits u) Tryz.underlying111 Tryz.underlying5 Tryz.underlying9 (fun j hj => by
      rw [Lib.row_is_numeral hF j hj, Lib.add_plain, World.cell?_drewN]
      exact Go.Sort.cell?_putRow (fun (b : UInt8) => Value.int .u8 (b.toNat : Int)) _ w.heap.size 0 _ dk HH0.out (by rw [hF.size, Array.size_replicate]) j (by rw [hF.size]; rw [Lib.decDigits_length] at hj; exact hj))
    rw [Lib.decDigits_length] at h
    exact h
  go_wp2
  go_ret
  obtain ⟨os, eo⟩ := fin_pos0 w (.cells Lib.zeros24 242) dk k
  exact ⟨rfl, grow_below ⟨k, os, eo⟩⟩
def fmtUintF (a0 : Int) : Option ByteArray := if 0 ≤ a0 ∧ a0 ≤ 18446744073709551615 then some ⟨(Lib.decDigits a0.toNat).toArray⟩ else none
def strconv_FormatUint.f (a0 a1 : Int) : Option ByteArray := if a1 = 10 then fmtUintF a0 else none
theorem strconv_FormatUint.calls (a0 a1 : Int) (r : ByteArray) (w : World) (hG : GG [4] w) (h : strconv_FormatUint.f a0 a1 = some r) :
    Calls Tryz.prog 79 #[.int .u64 a0, .int .i64 a1] w fun e w' => e = .returned (.string r) ∧ Below w.heap.size w w' := by
  unfold strconv_FormatUint.f fmtUintF at h
  by_cases h10 : a1 = 10
  · rw [if_pos h10] at h
    subst h10
    by_cases hr : 0 ≤ a0 ∧ a0 ≤ 18446744073709551615
    · rw [if_pos hr] at h
      obtain rfl := Option.some.inj h
      obtain ⟨n, rfl⟩ : ∃ n : Nat, a0 = (n : Int) := ⟨a0.toNat, by omega⟩
      have hn : n < 18446744073709551616 := by omega
      have ht : (n : Int).toNat = n := by simp
      rw [ht]
      have HT := Lib.hid (pow10_tab hG)
      have HC : Hid (∀ w1, Lib.TabIs Tryz.prog w1 "internal/strconv.uint64pow10" .u64 Lib.pow10Tab → Calls Tryz.prog 101 #[.int .u64 n, .int .i64 10] w1 fun e w' => e = .returned (.string ⟨(Lib.decDigits n).toArray⟩) ∧ Below w1.heap.size w1 w') := Lib.hid (fun w1 h1 => by
        by_cases hs : n < 100
        · exact fmtUint_small n hs w1
        · exact fmtUint_pos n (by omega) hn w1 h1)
      clear hr hn ht hG h
      go_enter Tryz.func79, Tryz.ntmps79
      go_wp2_with (first | (go_at_call 101; refine (HC.out _ HT.out).mono ?_; rintro e w1 ⟨rfl, hb⟩))
      go_ret
      exact ⟨rfl, hb⟩
    · rw [if_neg hr] at h
      cases h
  · rw [if_neg h10] at h
    cases h
def joinL (l : List ByteArray) (sep : ByteArray) : List UInt8 := Lib.join (l.map (·.data.toList)) sep.data.toList
def strings_Join.f (l : List ByteArray) (sep : ByteArray) : Option ByteArray :=
  if l = [] then some ⟨#[]⟩ else if l.length ≤ 140737488355328 ∧ (joinL l sep).length ≤ 140737488355328 then some ⟨(joinL l sep).toArray⟩ else none
theorem strings_Join.calls (A0 : Option Addr) (c0 : Nat) (l0 : List ByteArray) (a1 : ByteArray) (r : ByteArray) (w : World) (hr0 : Kd.C Kd.string w A0 l0.length l0) (hc0 : l0.length ≤ c0) (hG : GG [] w) (h : strings_Join.f l0 a1 = some r) :
    Calls Tryz.prog 80 #[.slice A0 l0.length c0, .string a1] w fun e w' => e = .returned (.string r) ∧ Below w.heap.size w w' := by
  unfold strings_Join.f at h
  by_cases he : l0 = []
  · rw [if_pos he] at h
    obtain rfl := Option.some.inj h
    subst he
    exact (Tryz.strings_Join_none A0 c0 a1 w).mono fun e w' h => ⟨h.1, h.2 ▸ Below.refl _ _⟩
  · rw [if_neg he] at h
    by_cases hb : l0.length ≤ 140737488355328 ∧ (joinL l0 a1).length ≤ 140737488355328
    · rw [if_pos hb] at h
      obtain rfl := Option.some.inj h
      have hpos : 0 < l0.length := List.length_pos_iff.2 he
      obtain ⟨ad, rfl, hcell⟩ := hr0.2.2 hpos
      have hat : ∀ (j : Nat) x, l0[j]? = some x → w.cell? (ad.add j) = some (.string x) := by
        intro j x hj
        obtain ⟨c, hl, hp, hu⟩ := hcell j x hj
        have hp : c = [.string x] := hp
        subst hp
        have := hu 0 _ rfl
        have e1 : (Kd.string).sz = 1 := rfl
        rw [e1, Nat.mul_one, Nat.add_zero] at this
        exact this
      obtain ⟨b, o, spot⟩ := ad
      have h0 := hat 0 l0[0] (List.getElem?_eq_getElem hpos)
      cases spot with
      | some s =>
        have h1 : w.cell? ⟨b, o, some s⟩ = some (.string l0[0]) := h0
        unfold World.cell? at h1
        split at h1
        · simp at h1
        · cases h1
      | none =>
        have hbk : b < w.heap.size := World.block_lt_of_cell? w _ h0
        refine (Tryz.strings_Join b o c0 l0 a1 w (fun j x hj => ?_) hbk hb.1 hc0 hb.2).mono fun e w' h => h
        have h2 := hat j x hj
        have ha : (⟨b, o, none⟩ : Addr).add j = ⟨b, o + j, none⟩ := by unfold Addr.add; split <;> simp_all
        rw [ha] at h2
        exact h2
    · rw [if_neg hb] at h
      cases h
mutual
def vcode_Ins_line.j0 : Nat → List Int → List ByteArray → Int → Int → List Int → Int → Int → Option (ByteArray)
 | 0, _, _, _, _, _, _, _ => none
 | k + 1, x1, x5, x321000, x321001, x321002, x321003, x321004 => (vcode_nameOf.f x321000).bind fun t328 => (if x5.length < 8796093022208 then (vcode_Ins_line.l0 k x1 (x5 ++ [t328]) x321002 (x321002.length : Int) 0 x321000 x321001 x321002 x321003 x321004) else (none))
def vcode_Ins_line.l0 : Nat → List Int → List ByteArray → List Int → Int → Int → Int → Int → List Int → Int → Int → Option (ByteArray)
 | 0, _, _, _, _, _, _, _, _, _, _ => none
 | k + 1, x1, x5, x26, x27, x28, x321000, x321001, x321002, x321003, x321004 => if x28 < x27 then (if 0 ≤ x28 then (if x28 < (x26.length : Int) then ((vcode_reg.f (rd x26 x28)).bind fun t333 => (if x5.length < 8796093022208 then (vcode_Ins_line.l0 k x1 (x5 ++ [t333]) x26 x27 (wrap64 (x28 + 1)) x321000 x321001 x321002 x321003 x321004) else (none))) else (none)) else (none)) else (if x321000 = 66 then (vcode_Ins_line.j2 k x1 x5 true x321000 x321001 x321002 x321003 x321004) else (if x321000 = 35 then (vcode_Ins_line.j2 k x1 x5 true x321000 x321001 x321002 x321003 x321004) else (if x321000 = 36 then (vcode_Ins_line.j2 k x1 x5 true x321000 x321001 x321002 x321003 x321004) else (if x321000 = 16 then (vcode_Ins_line.j2 k x1 x5 true x321000 x321001 x321002 x321003 x321004) else (vcode_Ins_line.j2 k x1 x5 (x321000 == 17) x321000 x321001 x321002 x321003 x321004)))))
def vcode_Ins_line.j3 : Nat → List Int → List ByteArray → Int → Int → List Int → Int → Int → Option (ByteArray)
 | 0, _, _, _, _, _, _, _ => none
 | k + 1, x1, x5, x321000, x321001, x321002, x321003, x321004 => (vcode_Ends.f x321000).bind fun t346 => (if t346 = true then (vcode_Ins_line.j4 k x1 x5 (decide ((x1.length : Int) > 0))) else (vcode_Ins_line.j4 k x1 x5 false))
def vcode_Ins_line.j4 : Nat → List Int → List ByteArray → Bool → Option (ByteArray)
 | 0, _, _, _ => none
 | k + 1, x1, x5, x87 => if x87 = true then (if x5.length < 8796093022208 then (vcode_Ins_line.l1 k (x5 ++ [(⟨#[45, 62]⟩ : ByteArray)]) x1 (x1.length : Int) 0) else (none)) else ((strings_Join.f x5 (⟨#[32]⟩ : ByteArray)).bind fun t356 => (if 2 + t356.size ≤ 9223372036854775807 then (if ((⟨#[32, 32]⟩ : ByteArray) ++ t356).size + 1 ≤ 9223372036854775807 then (some (((⟨#[32, 32]⟩ : ByteArray) ++ t356) ++ (⟨#[10]⟩ : ByteArray))) else (none)) else (none)))
def vcode_Ins_line.l1 : Nat → List ByteArray → List Int → Int → Int → Option (ByteArray)
 | 0, _, _, _, _ => none
 | k + 1, x5, x91, x92, x93 => if x93 < x92 then (if 0 ≤ x93 then (if x93 < (x91.length : Int) then ((strconv_Itoa.f (rd x91 x93)).bind fun t351 => (if x5.length < 8796093022208 then (vcode_Ins_line.l1 k (x5 ++ [t351]) x91 x92 (wrap64 (x93 + 1))) else (none))) else (none)) else (none)) else ((strings_Join.f x5 (⟨#[32]⟩ : ByteArray)).bind fun t355 => (if 2 + t355.size ≤ 9223372036854775807 then (if ((⟨#[32, 32]⟩ : ByteArray) ++ t355).size + 1 ≤ 9223372036854775807 then (some (((⟨#[32, 32]⟩ : ByteArray) ++ t355) ++ (⟨#[10]⟩ : ByteArray))) else (none)) else (none)))
def vcode_Ins_line.j2 : Nat → List Int → List ByteArray → Bool → Int → Int → List Int → Int → Int → Option (ByteArray)
 | 0, _, _, _, _, _, _, _, _ => none
 | k + 1, x1, x5, x38, x321000, x321001, x321002, x321003, x321004 => if x38 = true then ((strconv_FormatInt.f x321003 10).bind fun t337 => (if x5.length < 8796093022208 then (vcode_Ins_line.j3 k x1 (x5 ++ [t337]) x321000 x321001 x321002 x321003 x321004) else (none))) else ((vcode_memory.f x321000).bind fun t341 => (if t341 = true then ((strconv_FormatUint.f (IntKind.u64.wrap (x321004)) 10).bind fun t342 => (if 1 + t342.size ≤ 9223372036854775807 then (if x5.length < 8796093022208 then (vcode_Ins_line.j3 k x1 (x5 ++ [(⟨#[43]⟩ : ByteArray) ++ t342]) x321000 x321001 x321002 x321003 x321004) else (none)) else (none))) else (vcode_Ins_line.j3 k x1 x5 x321000 x321001 x321002 x321003 x321004)))
end
def vcode_Ins_line.f (k : Nat) (a0_0 : Int) (a0_1 : Int) (l0_2 : List Int) (a0_3 : Int) (a0_4 : Int) (l1 : List Int) : Option (ByteArray) := if a0_1 ≥ 0 then ((vcode_reg.f a0_1).bind fun t321 => ((some (([t321, (⟨#[61]⟩ : ByteArray)] : List ByteArray) : List ByteArray)).bind fun y322 => (if ([] : List ByteArray).length + y322.length < 8796093022208 then (vcode_Ins_line.j0 k l1 (([] : List ByteArray) ++ y322) a0_0 a0_1 l0_2 a0_3 a0_4) else (none)))) else (vcode_Ins_line.j0 k l1 ([] : List ByteArray) a0_0 a0_1 l0_2 a0_3 a0_4)
set_option maxHeartbeats 8000000 in
set_option maxRecDepth 100000 in
theorem vcode_Ins_line.calls (k : Nat) (a0_0 : Int) (a0_1 : Int) (A0_2 : Option Addr) (c0_2 : Nat) (l0_2 : List Int) (a0_3 : Int) (a0_4 : Int) (A1 : Option Addr) (c1 : Nat) (l1 : List Int) (r : ByteArray) (w : World) (hr0_2 : Kd.C (Kd.int .i64) w A0_2 l0_2.length l0_2) (hc0_2 : l0_2.length ≤ c0_2) (hr1 : Kd.C (Kd.int .i64) w A1 l1.length l1) (hc1 : l1.length ≤ c1) (hG : GG [4] w) (h : vcode_Ins_line.f k a0_0 a0_1 l0_2 a0_3 a0_4 l1 = some r) :
  Calls Tryz.prog 44 #[.agg #[.int .u8 a0_0, .int .i64 a0_1, .slice A0_2 l0_2.length c0_2, .int .i64 a0_3, .int .u32 a0_4], .slice A1 l1.length c1] w fun e w' => e = .returned (.string r) ∧ Below w.heap.size w w' := by
 have hu84 := Tryz.underlying84
 have HR0_2 := Aside0.mk hr0_2
 have HC0_2 := Aside0.mk hc0_2
 clear hr0_2 hc0_2
 have HR1 := Aside0.mk hr1
 have HC1 := Aside0.mk hc1
 clear hr1 hc1
 have HB := Aside0.mk (Below.refl w.heap.size w)
 have HG := Aside0.mk hG
 clear hG
 have H : (if a0_1 ≥ 0 then ((vcode_reg.f a0_1).bind fun t321 => ((some (([t321, (⟨#[61]⟩ : ByteArray)] : List ByteArray) : List ByteArray)).bind fun y322 => (if ([] : List ByteArray).length + y322.length < 8796093022208 then (vcode_Ins_line.j0 k l1 (([] : List ByteArray) ++ y322) a0_0 a0_1 l0_2 a0_3 a0_4) else (none)))) else (vcode_Ins_line.j0 k l1 ([] : List ByteArray) a0_0 a0_1 l0_2 a0_3 a0_4)) = some r := h
 clear h
 have HC3 := Aside0.mk H
 clear H
 go_enter Tryz.func44, Tryz.ntmps44
 go_upto_if 12 with (first | ((with_reducible refine gate_dst (N := 2) rfl ?_); (try (refine gate_guard Q2 ?_; dsimp only)); refine box_event ?hg (N := 2) ?hd (cs := #[.int .u8 a0_0, .int .i64 a0_1, .slice A0_2 l0_2.length c0_2, .int .i64 a0_3, .int .u32 a0_4]) (t := 84) ?hr ?_; (case hd => rfl); (case hg => rfl); (case hr => first | (go_simp; done) | (go_simp; rfl)); intro gb320 hg w4 hbox hb; have n0_ := Aside0.mk (below_step Q1 hb); have n1_ := Aside0.mk (hbox); have n2_ := Aside0.mk ((Q155 : w.heap.size ≤ gb320)); have n3_ := Aside0.mk ((Q155 : w.heap.size ≤ gb320)); clear HB; have HB := n0_; have BK320 := n1_; have GW320 := n2_; have GE320 := n3_; clear n0_ n1_ n2_ n3_; clear hb hbox hg; have hcz5_0 : w4.cell? ⟨gb320, 0, none⟩ = some (.int .u8 a0_0) := (blk_cell BK320.out 0).trans rfl; have hcz5_1 : w4.cell? ⟨gb320, 1, none⟩ = some (.int .i64 a0_1) := (blk_cell BK320.out 1).trans rfl; have hcz5_2 : w4.cell? ⟨gb320, 2, none⟩ = some (.slice A0_2 l0_2.length c0_2) := (blk_cell BK320.out 2).trans rfl; have hcz5_3 : w4.cell? ⟨gb320, 3, none⟩ = some (.int .i64 a0_3) := (blk_cell BK320.out 3).trans rfl; have hcz5_4 : w4.cell? ⟨gb320, 4, none⟩ = some (.int .u32 a0_4) := (blk_cell BK320.out 4).trans rfl; have hfz5_0 := blk_frozen BK320.out 0; have hfz5_1 := blk_frozen BK320.out 1; have hfz5_2 := blk_frozen BK320.out 2; have hfz5_3 := blk_frozen BK320.out 3; have hfz5_4 := blk_frozen BK320.out 4))
 (try simp only [Act.put, List.setIfInBounds_toArray, List.set_cons_zero, List.set_cons_succ])
 go_cut [5] (fun v5 wc => ∃ (kq : Nat) (x5_2 : List ByteArray), Aside0 (vcode_Ins_line.j0 kq l1 x5_2 a0_0 a0_1 l0_2 a0_3 a0_4 = some r) ∧ Aside0 (kq ≤ k) ∧ Aside0 (Kd.R Kd.string 9 wc w.heap.size (fun _ => True) v5 x5_2) ∧ Aside0 (wc.heap[gb320]? = some (.cells #[.int .u8 a0_0, .int .i64 a0_1, (.slice A0_2 l0_2.length c0_2), .int .i64 a0_3, .int .u32 a0_4] 84 (0, 0))) ∧ Aside0 (Below w.heap.size w wc))
 case first =>
  have H := HC3.out
  clear HC3
  by_cases c6 : a0_1 ≥ 0
  ·rw [if_pos c6] at H
   have c6b0 : decide (0 ≤ a0_1) = true := decide_eq_true c6
   clear c6
   (first | rw [c6b0] | (simp only [i64_w, i32_w]; rw [c6b0]) | skip)
   replace H := Option.bind_eq_some_iff.mp H
   obtain ⟨t321, A70, H⟩ := H
   replace H : ((some (([t321, (⟨#[61]⟩ : ByteArray)] : List ByteArray) : List ByteArray)).bind fun y322 => (if ([] : List ByteArray).length + y322.length < 8796093022208 then (vcode_Ins_line.j0 k l1 (([] : List ByteArray) ++ y322) a0_0 a0_1 l0_2 a0_3 a0_4) else (none))) = some r := H
   have A7 := Aside0.mk A70
   clear A70
   obtain ⟨y322, hy322⟩ : ∃ y_ : List ByteArray, y_ = (([t321, (⟨#[61]⟩ : ByteArray)] : List ByteArray)) := ⟨_, rfl⟩
   replace H : (if ([] : List ByteArray).length + y322.length < 8796093022208 then (vcode_Ins_line.j0 k l1 (([] : List ByteArray) ++ y322) a0_0 a0_1 l0_2 a0_3 a0_4) else (none)) = some r := by first | (rw [hy322]; with_reducible exact H) | (have H2_ := (Option.bind_some _ _).symm.trans H; rw [hy322]; with_reducible exact H2_) | (have H2_ := (Option.bind_some _ _).symm.trans H; with_reducible exact H2_) | with_reducible exact H | (rw [hy322]; exact H) | exact H
   have Ny322 := Aside0.mk hy322
   clear hy322
   by_cases c8 : ([] : List ByteArray).length + y322.length < 8796093022208
   ·rw [if_pos c8] at H
    have LMc8 := Aside0.mk c8
    clear c8
    obtain ⟨y325, hy325⟩ : ∃ y_ : List ByteArray, y_ = (([] : List ByteArray) ++ y322) := ⟨_, rfl⟩
    replace H : (vcode_Ins_line.j0 k l1 y325 a0_0 a0_1 l0_2 a0_3 a0_4) = some r := by first | (rw [hy325]; with_reducible exact H) | (have H2_ := (Option.bind_some _ _).symm.trans H; rw [hy325]; with_reducible exact H2_) | (have H2_ := (Option.bind_some _ _).symm.trans H; with_reducible exact H2_) | with_reducible exact H | (rw [hy325]; exact H) | exact H
    have Ny325 := Aside0.mk hy325
    clear hy325
    have H' := Aside0.mk H
    clear H
    have ⟨hcz9_0, hcz9_1, hcz9_2, hcz9_3, hcz9_4, hfz9_0, hfz9_1, hfz9_2, hfz9_3, hfz9_4⟩ := blk5 BK320.out
    go_wp2_with (first | ((with_reducible refine gate_callee (f := 75) rfl ?_); refine goesL_ (some 16) rfl rfl Tryz.func75 Q0 rfl #[.int .i64 a0_1] rfl Q9 ?_; (with_reducible refine (vcode_reg.calls a0_1 t321 _ ?side1 A7.out).mono ?_); (case side1 => exact GG.below Q17 HG.out); rintro e w10 ⟨rfl, hb⟩; refine ⟨_, rfl, ?_⟩; have n0_ := Aside0.mk (blk_below (g := gb320) (o := .cells #[.int .u8 a0_0, .int .i64 a0_1, .slice A0_2 l0_2.length c0_2, .int .i64 a0_3, .int .u32 a0_4] 84 (0, 0)) Q24 hb); have n1_ := Aside0.mk (below_step Q17 hb); clear BK320; clear HB; have BK320 := n0_; have HB := n1_; clear n0_ n1_; (try clear hb); (try clear hb2); (try clear hk); (try clear hi)) | ((with_reducible refine gate_dst (N := 17) rfl ?_); (try (refine gate_guard Q2 ?_; dsimp only)); refine Kd.R_lit Kd.string _ 9 ?hg (N := 17) ?hd (xs := ([t321, (⟨#[61]⟩ : ByteArray)] : List ByteArray)) (inner := [.string t321, .string (⟨#[61]⟩ : ByteArray)]) (ok := fun _ => True) (okp := fun _ => True) ?hr ?hp (fun _ hk => hk) trivial (Below.refl _ _) (Nat.le_refl _) Q8 ?_; (case hd => rfl); (case hg => rfl); (case hr => first | (go_simp; done) | (go_simp; rfl)); (case hp => exact (Reps.one (show Kd.M Kd.string _ _ _ t321 [.string t321] from rfl) (Reps.one (show Kd.M Kd.string _ _ _ (⟨#[61]⟩ : ByteArray) [.string (⟨#[61]⟩ : ByteArray)] from rfl) (Reps.none _ _)))); intro v323 w11 ho12 hb hg_ hnew_; clear hg_ hnew_; (first | rw [← Ny322.out] at ho12 | (simp only [Int.reduceToNat] at ho12; rw [← Ny322.out] at ho12)); have n0_ := Aside0.mk (Kd.R_lower ho12 (below_size Q17)); have n1_ := Aside0.mk (blk_below (g := gb320) (o := .cells #[.int .u8 a0_0, .int .i64 a0_1, .slice A0_2 l0_2.length c0_2, .int .i64 a0_3, .int .u32 a0_4] 84 (0, 0)) Q24 hb); have n2_ := Aside0.mk (below_step Q17 hb); clear BK320; clear HB; have HO324 := n0_; have BK320 := n1_; have HB := n2_; clear n0_ n1_ n2_; clear hb ho12; obtain ⟨Ao14, co14, eo14⟩ := Kd.R_slice HO324.out; subst eo14) | ((with_reducible refine gate_builtin (b := .append) (xs := #[.tmp 13, .tmp 17]) rfl ?_); (try (refine gate_guard Q2 ?_; dsimp only)); at_builtin; refine Kd.R_append_rows Kd.string (w0 := w) w.heap.size rfl (.tmp 13) (.tmp 17) 195 9 (.string ⟨#[]⟩) 16 rfl Tryz.underlying195 info9 rfl Q12 Q20 (.slice none 0 0) ([] : List ByteArray) y322 _ _ _ (fun k_ => some k_ ≠ (.slice Ao14 y322.length co14 : Value).ownBlock) (fun _ => False) rfl rfl ?aO ?aR (fun _ _ h => h) (fun _ h => h.elim) ?aF ?aB ?aS ?aL ?_; (case aR => repeat (first | exact (Kd.R_reads' HO324.out).2.2 | (with_reducible refine Kd.C_alloc ?_ _) | (with_reducible refine Kd.C_drewN ?_ _) | (with_reducible refine Kd.C_drew ?_))); (case aB => exact Q17); (case aF => exact (fun k_ hk => Kd.fresh' (Kd.R_lt Q123) k_ hk)); (case aO => exact ((Kd.R_nil _ _ _ _ (fun k_ => some k_ ≠ (.slice Ao14 y322.length co14 : Value).ownBlock)))); (case aS => exact (below_size Q17)); (case aL => have := LMc8.out; omega); intro v326 w13 ho hb hg hat; rw [← Ny325.out] at ho; have n0_ := Aside0.mk (blk_grown (g := gb320) (o := .cells #[.int .u8 a0_0, .int .i64 a0_1, .slice A0_2 l0_2.length c0_2, .int .i64 a0_3, .int .u32 a0_4] 84 (0, 0)) Q24 hg Q64); have n1_ := Aside0.mk (Kd.R_after (Kd.R_apart_nil Q123) hg hat); have n2_ := Aside0.mk (hb); have n3_ := Aside0.mk (ho); clear BK320; clear HO324; clear HB; have BK320 := n0_; have HO324 := n1_; have HB := n2_; have HO327 := n3_; clear n0_ n1_ n2_ n3_; clear ho hb hg hat))
    go_meet
    case rel => exact ⟨_, (y325), H', ⟨Q15⟩, ⟨by (with_reducible repeat (first | apply Kd.R_alloc | apply Kd.R_drewN | apply Kd.R_drew)); exact Kd.R_mono HO327.out (fun _ hk => trivial)⟩, ⟨Q24⟩, ⟨Q17⟩⟩
   rw [if_neg c8] at H
   exact absurd H Q8
  rw [if_neg c6] at H
  have c6b0 : decide (0 ≤ a0_1) = false := decide_eq_false c6
  clear c6
  (first | rw [c6b0] | (simp only [i64_w, i32_w]; rw [c6b0]) | skip)
  have H' := Aside0.mk H
  clear H
  go_wp2
  go_meet
  case rel => exact ⟨_, (([] : List ByteArray)), H', ⟨Q15⟩, ⟨Q54⟩, ⟨Q24⟩, ⟨Q17⟩⟩
 case rest =>
  clear HC3
  try clear c1
  try clear hcz5_0 hcz5_1 hcz5_2 hcz5_3 hcz5_4 hfz5_0 hfz5_1 hfz5_2 hfz5_3 hfz5_4
  obtain ⟨kq, x5_2, HA, HJ2, HO_5, BK320, HB⟩ := hcut
  cases kq with
  | zero => exact absurd HA.out (by simp [vcode_Ins_line.j0])
  | succ kj2 =>
   have H := HA.out
   clear HA
   simp only [vcode_Ins_line.j0] at H
   replace H := Option.bind_eq_some_iff.mp H
   obtain ⟨t328, A150, H⟩ := H
   replace H : (if x5_2.length < 8796093022208 then (vcode_Ins_line.l0 kj2 l1 (x5_2 ++ [t328]) l0_2 (l0_2.length : Int) 0 a0_0 a0_1 l0_2 a0_3 a0_4) else (none)) = some r := H
   have A15 := Aside0.mk A150
   clear A150
   by_cases c16 : x5_2.length < 8796093022208
   ·rw [if_pos c16] at H
    have LMc16 := Aside0.mk c16
    clear c16
    obtain ⟨y329, hy329⟩ : ∃ y_ : List ByteArray, y_ = (x5_2 ++ [t328]) := ⟨_, rfl⟩
    replace H : (vcode_Ins_line.l0 kj2 l1 y329 l0_2 (l0_2.length : Int) 0 a0_0 a0_1 l0_2 a0_3 a0_4) = some r := by first | (rw [hy329]; with_reducible exact H) | (have H2_ := (Option.bind_some _ _).symm.trans H; rw [hy329]; with_reducible exact H2_) | (have H2_ := (Option.bind_some _ _).symm.trans H; with_reducible exact H2_) | with_reducible exact H | (rw [hy329]; exact H) | exact H
    have Ny329 := Aside0.mk hy329
    clear hy329
    have H' := Aside0.mk H
    clear H
    have ⟨hcz17_0, hcz17_1, hcz17_2, hcz17_3, hcz17_4, hfz17_0, hfz17_1, hfz17_2, hfz17_3, hfz17_4⟩ := blk5 BK320.out
    go_wp2_with (first | ((with_reducible refine gate_callee (f := 76) rfl ?_); refine goesL_ (some 22) rfl rfl Tryz.func76 Q0 rfl #[.int .u8 a0_0] rfl Q9 ?_; (with_reducible refine (vcode_nameOf.calls a0_0 t328 _ ?side1 A15.out).mono ?_); (case side1 => exact GG.nil _); rintro e w18 ⟨rfl, hb⟩; refine ⟨_, rfl, ?_⟩; have n0_ := Aside0.mk (Kd.R_below Q28 hb); have n1_ := Aside0.mk (blk_below (g := gb320) (o := .cells #[.int .u8 a0_0, .int .i64 a0_1, .slice A0_2 l0_2.length c0_2, .int .i64 a0_3, .int .u32 a0_4] 84 (0, 0)) Q24 hb); have n2_ := Aside0.mk (below_step Q17 hb); clear HO_5; clear BK320; clear HB; have HO_5 := n0_; have BK320 := n1_; have HB := n2_; clear n0_ n1_ n2_; (try clear hb); (try clear hb2); (try clear hk); (try clear hi)) | ((with_reducible refine gate_builtin (b := .append) (xs := #[.tmp 19, .tmp 23]) rfl ?_); (try (refine gate_guard Q2 ?_; dsimp only)); at_builtin; refine Kd.R_append Kd.string (w0 := w) w.heap.size rfl (.tmp 19) (.tmp 23) 195 9 (.string ⟨#[]⟩) 16 rfl Tryz.underlying195 info9 rfl Q12 Q20 u5 x5_2 t328 [.string t328] (fun _ => True) (fun _ => False) rfl rfl ?aP (fun _ hk => hk.elim) ?aF ?aO ?aB ?aS ?aL ?_; (case aP => exact rfl); (case aB => exact Q17); (case aF => exact (fun _ _ => trivial)); (case aO => exact Q28); (case aS => exact (below_size Q17)); (case aL => have := LMc16.out; omega); intro v330 w19 ho hb hg hat; rw [← Ny329.out] at ho; have n0_ := Aside0.mk (blk_grown (g := gb320) (o := .cells #[.int .u8 a0_0, .int .i64 a0_1, .slice A0_2 l0_2.length c0_2, .int .i64 a0_3, .int .u32 a0_4] 84 (0, 0)) Q24 hg (Kd.R_ne HO_5.out BK320.out Q12)); have n1_ := Aside0.mk (hb); have n2_ := Aside0.mk (ho); clear BK320; clear HB; clear HO_5; have BK320 := n0_; have HB := n1_; have HO331 := n2_; clear n0_ n1_ n2_; clear ho hb hg hat; have hcz20_0 : w19.cell? ⟨gb320, 0, none⟩ = some (.int .u8 a0_0) := (blk_cell BK320.out 0).trans rfl; have hcz20_1 : w19.cell? ⟨gb320, 1, none⟩ = some (.int .i64 a0_1) := (blk_cell BK320.out 1).trans rfl; have hcz20_2 : w19.cell? ⟨gb320, 2, none⟩ = some (.slice A0_2 l0_2.length c0_2) := (blk_cell BK320.out 2).trans rfl; have hcz20_3 : w19.cell? ⟨gb320, 3, none⟩ = some (.int .i64 a0_3) := (blk_cell BK320.out 3).trans rfl; have hcz20_4 : w19.cell? ⟨gb320, 4, none⟩ = some (.int .u32 a0_4) := (blk_cell BK320.out 4).trans rfl; have hfz20_0 := blk_frozen BK320.out 0; have hfz20_1 := blk_frozen BK320.out 1; have hfz20_2 := blk_frozen BK320.out 2; have hfz20_3 := blk_frozen BK320.out 3; have hfz20_4 := blk_frozen BK320.out 4))
    go_loopg [5, 28] kj2 (fun kq v5 v28 w' => ∃ (x5_2 : List ByteArray) (x28_2 : Int), v28 = .int .i64 x28_2 ∧ Aside0 (vcode_Ins_line.l0 kq l1 x5_2 l0_2 (l0_2.length : Int) x28_2 a0_0 a0_1 l0_2 a0_3 a0_4 = some r) ∧ Aside0 (kq ≤ kj2) ∧ Aside0 (Kd.R Kd.string 9 w' w.heap.size (fun _ => True) v5 x5_2) ∧ Aside0 (w'.heap[gb320]? = some (.cells #[.int .u8 a0_0, .int .i64 a0_1, (.slice A0_2 l0_2.length c0_2), .int .i64 a0_3, .int .u32 a0_4] 84 (0, 0))) ∧ Aside0 (Below w.heap.size w w'))
    case atStart => exact ⟨(y329), (0), Q3, H', ⟨Nat.le_refl _⟩, ⟨by (with_reducible repeat (first | apply Kd.R_alloc | apply Kd.R_drewN | apply Kd.R_drew)); exact HO331.out⟩, ⟨Q24⟩, ⟨Q17⟩⟩
    case round =>
     clear H'
     try clear c1
     try clear c16
     try clear hcz17_0 hcz17_1 hcz17_2 hcz17_3 hcz17_4 hfz17_0 hfz17_1 hfz17_2 hfz17_3 hfz17_4
     try clear hcz20_0 hcz20_1 hcz20_2 hcz20_3 hcz20_4 hfz20_0 hfz20_1 hfz20_2 hfz20_3 hfz20_4
     try clear hcz5_0 hcz5_1 hcz5_2 hcz5_3 hcz5_4 hfz5_0 hfz5_1 hfz5_2 hfz5_3 hfz5_4
     obtain ⟨x5_2, x28_2, rfl, HA, HK2, HO_5, BK320, HB⟩ := hrel
     cases gk with
     | zero => exact absurd HA.out (by simp [vcode_Ins_line.l0])
     | succ k2 =>
      have H := HA.out
      clear HA
      simp only [vcode_Ins_line.l0] at H
      by_cases c21 : x28_2 < (l0_2.length : Int)
      ·rw [if_pos c21] at H
       have c21b0 : decide (x28_2 < (l0_2.length : Int)) = true := decide_eq_true c21
       clear c21
       by_cases c22 : 0 ≤ x28_2
       ·rw [if_pos c22] at H
        have c22b0 : decide (0 ≤ x28_2) = true := decide_eq_true c22
        clear c22
        by_cases c23 : x28_2 < (l0_2.length : Int)
        ·rw [if_pos c23] at H
         have c23b0 : decide (x28_2 < (l0_2.length : Int)) = true := decide_eq_true c23
         clear c23
         replace H := Option.bind_eq_some_iff.mp H
         obtain ⟨t333, A240, H⟩ := H
         replace H : (if x5_2.length < 8796093022208 then (vcode_Ins_line.l0 k2 l1 (x5_2 ++ [t333]) l0_2 (l0_2.length : Int) (wrap64 (x28_2 + 1)) a0_0 a0_1 l0_2 a0_3 a0_4) else (none)) = some r := H
         have A24 := Aside0.mk A240
         clear A240
         by_cases c25 : x5_2.length < 8796093022208
         ·rw [if_pos c25] at H
          have LMc25 := Aside0.mk c25
          clear c25
          obtain ⟨y334, hy334⟩ : ∃ y_ : List ByteArray, y_ = (x5_2 ++ [t333]) := ⟨_, rfl⟩
          replace H : (vcode_Ins_line.l0 k2 l1 y334 l0_2 (l0_2.length : Int) (wrap64 (x28_2 + 1)) a0_0 a0_1 l0_2 a0_3 a0_4) = some r := by first | (rw [hy334]; with_reducible exact H) | (have H2_ := (Option.bind_some _ _).symm.trans H; rw [hy334]; with_reducible exact H2_) | (have H2_ := (Option.bind_some _ _).symm.trans H; with_reducible exact H2_) | with_reducible exact H | (rw [hy334]; exact H) | exact H
          have Ny334 := Aside0.mk hy334
          clear hy334
          have H' := Aside0.mk H
          clear H
          have p332 : 0 ≤ (x28_2 : Int) := of_decide_eq_true Q4
          have q332 : x28_2 < (l0_2.length : Int) := of_decide_eq_true Q4
          obtain ⟨ad332, e332, hx332_0⟩ := Kd.at_int HR0_2.out x28_2 p332 q332
          cases e332
          replace hx332_0 := (HB.out.cell (World.block_lt_of_cell? w _ hx332_0)).trans hx332_0
          replace p332 := eq_true p332
          replace q332 := eq_true q332
          go_wp2_with (first | ((with_reducible refine gate_callee (f := 75) rfl ?_); refine goesL_ (some 34) rfl rfl Tryz.func75 Q0 rfl #[.int .i64 (rd l0_2 x28_2)] rfl Q9 ?_; (with_reducible refine (vcode_reg.calls (rd l0_2 x28_2) t333 _ ?side1 A24.out).mono ?_); (case side1 => exact GG.below Q17 HG.out); rintro e w26 ⟨rfl, hb⟩; refine ⟨_, rfl, ?_⟩; have n0_ := Aside0.mk (Kd.R_below Q28 hb); have n1_ := Aside0.mk (blk_below (g := gb320) (o := .cells #[.int .u8 a0_0, .int .i64 a0_1, .slice (some ad332) l0_2.length c0_2, .int .i64 a0_3, .int .u32 a0_4] 84 (0, 0)) Q24 hb); have n2_ := Aside0.mk (below_step Q17 hb); clear HO_5; clear BK320; clear HB; have HO_5 := n0_; have BK320 := n1_; have HB := n2_; clear n0_ n1_ n2_; (try clear hb); (try clear hb2); (try clear hk); (try clear hi)) | ((with_reducible refine gate_builtin (b := .append) (xs := #[.tmp 32, .tmp 35]) rfl ?_); (try (refine gate_guard Q2 ?_; dsimp only)); at_builtin; refine Kd.R_append Kd.string (w0 := w) w.heap.size rfl (.tmp 32) (.tmp 35) 195 9 (.string ⟨#[]⟩) 16 rfl Tryz.underlying195 info9 rfl Q12 Q20 u5 x5_2 t333 [.string t333] (fun _ => True) (fun _ => False) rfl rfl ?aP (fun _ hk => hk.elim) ?aF ?aO ?aB ?aS ?aL ?_; (case aP => exact rfl); (case aB => exact Q17); (case aF => exact (fun _ _ => trivial)); (case aO => exact Q28); (case aS => exact (below_size Q17)); (case aL => have := LMc25.out; omega); intro v335 w27 ho hb hg hat; rw [← Ny334.out] at ho; have n0_ := Aside0.mk (blk_grown (g := gb320) (o := .cells #[.int .u8 a0_0, .int .i64 a0_1, .slice (some ad332) l0_2.length c0_2, .int .i64 a0_3, .int .u32 a0_4] 84 (0, 0)) Q24 hg (Kd.R_ne HO_5.out BK320.out Q12)); have n1_ := Aside0.mk (hb); have n2_ := Aside0.mk (ho); clear BK320; clear HB; clear HO_5; have BK320 := n0_; have HB := n1_; have HO336 := n2_; clear n0_ n1_ n2_; clear ho hb hg hat))
          go_roundg k2
          case measure => have := HJ2.out; have := HK2.out; omega
          case rel => exact ⟨(y334), (wrap64 (x28_2 + 1)), Q3, H', ⟨by have := HJ2.out; have := HK2.out; omega⟩, ⟨by (with_reducible repeat (first | apply Kd.R_alloc | apply Kd.R_drewN | apply Kd.R_drew)); exact HO336.out⟩, ⟨Q24⟩, ⟨Q17⟩⟩
         rw [if_neg c25] at H
         exact absurd H Q8
        rw [if_neg c23] at H
        exact absurd H Q8
       rw [if_neg c22] at H
       exact absurd H Q8
      rw [if_neg c21] at H
      have c21b0 : decide (x28_2 < (l0_2.length : Int)) = false := decide_eq_false c21
      clear c21
      have HC28 := Aside0.mk H
      clear H
      go_upto_block 2 with (fail)
      go_cut [5] (fun v5 wc => ∃ (kq : Nat) (x5_27 : List ByteArray), Aside0 (vcode_Ins_line.j3 kq l1 x5_27 a0_0 a0_1 l0_2 a0_3 a0_4 = some r) ∧ Aside0 (kq ≤ k2) ∧ Aside0 (Kd.R Kd.string 9 wc w.heap.size (fun _ => True) v5 x5_27) ∧ Aside0 (wc.heap[gb320]? = some (.cells #[.int .u8 a0_0, .int .i64 a0_1, (.slice A0_2 l0_2.length c0_2), .int .i64 a0_3, .int .u32 a0_4] 84 (0, 0))) ∧ Aside0 (Below w.heap.size w wc))
      case first =>
       have H := HC28.out
       clear HC28
       have HC29 := Aside0.mk H
       clear H
       go_upto_region 10 with (fail)
       go_cut [38] (fun v38 wc => ∃ (kq : Nat) (x38_28 : Bool), v38 = .bool x38_28 ∧ Aside0 (vcode_Ins_line.j2 kq l1 x5_2 x38_28 a0_0 a0_1 l0_2 a0_3 a0_4 = some r) ∧ Aside0 (kq ≤ k2) ∧ Aside0 (Kd.R Kd.string 9 wc w.heap.size (fun _ => True) u5 x5_2) ∧ Aside0 (wc.heap[gb320]? = some (.cells #[.int .u8 a0_0, .int .i64 a0_1, (.slice A0_2 l0_2.length c0_2), .int .i64 a0_3, .int .u32 a0_4] 84 (0, 0))) ∧ Aside0 (Below w.heap.size w wc))
       case first =>
        have H := HC29.out
        clear HC29
        by_cases c30 : a0_0 = 66
        ·rw [if_pos c30] at H
         have c30b0 : (a0_0 == 66) = true := beq_iff_eq.mpr c30
         have c30b1 : (a0_0 != 66) = false := bne_eq_false_iff_eq.mpr c30
         clear c30
         (first | rw [c30b0] | (simp only [i64_w, i32_w]; rw [c30b0]) | skip)
         have H' := Aside0.mk H
         clear H
         have ⟨hcz31_0, hcz31_1, hcz31_2, hcz31_3, hcz31_4, hfz31_0, hfz31_1, hfz31_2, hfz31_3, hfz31_4⟩ := blk5 BK320.out
         go_wp2
         go_meet
         case rel => exact ⟨_, (true), Q3, H', ⟨Q65⟩, ⟨Q28⟩, ⟨Q24⟩, ⟨Q17⟩⟩
        rw [if_neg c30] at H
        have c30b0 : (a0_0 == 66) = false := beq_eq_false_iff_ne.mpr c30
        have c30b1 : (a0_0 != 66) = true := bne_iff_ne.mpr c30
        (first | rw [c30b0] | (simp only [i64_w, i32_w]; rw [c30b0]) | skip)
        by_cases c32 : a0_0 = 35
        ·rw [if_pos c32] at H
         have c32b0 : (a0_0 == 35) = true := beq_iff_eq.mpr c32
         have c32b1 : (a0_0 != 35) = false := bne_eq_false_iff_eq.mpr c32
         clear c32
         have H' := Aside0.mk H
         clear H
         have ⟨hcz33_0, hcz33_1, hcz33_2, hcz33_3, hcz33_4, hfz33_0, hfz33_1, hfz33_2, hfz33_3, hfz33_4⟩ := blk5 BK320.out
         go_wp2
         go_meet
         case rel => exact ⟨_, (true), Q3, H', ⟨Q65⟩, ⟨Q28⟩, ⟨Q24⟩, ⟨Q17⟩⟩
        rw [if_neg c32] at H
        have c32b0 : (a0_0 == 35) = false := beq_eq_false_iff_ne.mpr c32
        have c32b1 : (a0_0 != 35) = true := bne_iff_ne.mpr c32
        by_cases c34 : a0_0 = 36
        ·rw [if_pos c34] at H
         have c34b0 : (a0_0 == 36) = true := beq_iff_eq.mpr c34
         have c34b1 : (a0_0 != 36) = false := bne_eq_false_iff_eq.mpr c34
         clear c34
         have H' := Aside0.mk H
         clear H
         have ⟨hcz35_0, hcz35_1, hcz35_2, hcz35_3, hcz35_4, hfz35_0, hfz35_1, hfz35_2, hfz35_3, hfz35_4⟩ := blk5 BK320.out
         go_wp2
         go_meet
         case rel => exact ⟨_, (true), Q3, H', ⟨Q65⟩, ⟨Q28⟩, ⟨Q24⟩, ⟨Q17⟩⟩
        rw [if_neg c34] at H
        have c34b0 : (a0_0 == 36) = false := beq_eq_false_iff_ne.mpr c34
        have c34b1 : (a0_0 != 36) = true := bne_iff_ne.mpr c34
        by_cases c36 : a0_0 = 16
        ·rw [if_pos c36] at H
         have c36b0 : (a0_0 == 16) = true := beq_iff_eq.mpr c36
         have c36b1 : (a0_0 != 16) = false := bne_eq_false_iff_eq.mpr c36
         clear c36
         have H' := Aside0.mk H
         clear H
         have ⟨hcz37_0, hcz37_1, hcz37_2, hcz37_3, hcz37_4, hfz37_0, hfz37_1, hfz37_2, hfz37_3, hfz37_4⟩ := blk5 BK320.out
         go_wp2
         go_meet
         case rel => exact ⟨_, (true), Q3, H', ⟨Q65⟩, ⟨Q28⟩, ⟨Q24⟩, ⟨Q17⟩⟩
        rw [if_neg c36] at H
        have c36b0 : (a0_0 == 16) = false := beq_eq_false_iff_ne.mpr c36
        have c36b1 : (a0_0 != 16) = true := bne_iff_ne.mpr c36
        have H' := Aside0.mk H
        clear H
        have ⟨hcz38_0, hcz38_1, hcz38_2, hcz38_3, hcz38_4, hfz38_0, hfz38_1, hfz38_2, hfz38_3, hfz38_4⟩ := blk5 BK320.out
        go_wp2
        go_meet
        case rel => exact ⟨_, ((a0_0 == 17)), Q3, H', ⟨Q65⟩, ⟨Q28⟩, ⟨Q24⟩, ⟨Q17⟩⟩
       case rest =>
        clear HC29
        try clear c1
        try clear q3
        try clear hx3
        try clear c16
        try clear c21
        try clear c21b0
        try clear q33
        try clear hx33
        try clear hcz17_0 hcz17_1 hcz17_2 hcz17_3 hcz17_4 hfz17_0 hfz17_1 hfz17_2 hfz17_3 hfz17_4
        try clear hcz20_0 hcz20_1 hcz20_2 hcz20_3 hcz20_4 hfz20_0 hfz20_1 hfz20_2 hfz20_3 hfz20_4
        try clear hcz5_0 hcz5_1 hcz5_2 hcz5_3 hcz5_4 hfz5_0 hfz5_1 hfz5_2 hfz5_3 hfz5_4
        try clear hx332_0
        try clear q332
        obtain ⟨kq, x38_28, rfl, HA, HJ28, HO_5, BK320, HB⟩ := hcut
        cases kq with
        | zero => exact absurd HA.out (by simp [vcode_Ins_line.j2])
        | succ kj28 =>
         have H := HA.out
         clear HA
         simp only [vcode_Ins_line.j2] at H
         by_cases c39 : x38_28 = true
         ·subst c39
          have H1 : ((strconv_FormatInt.f a0_3 10).bind fun t337 => (if x5_2.length < 8796093022208 then (vcode_Ins_line.j3 kj28 l1 (x5_2 ++ [t337]) a0_0 a0_1 l0_2 a0_3 a0_4) else (none))) = some r := Q14
          clear H
          have H := H1
          clear H1
          replace H := Option.bind_eq_some_iff.mp H
          obtain ⟨t337, A400, H⟩ := H
          replace H : (if x5_2.length < 8796093022208 then (vcode_Ins_line.j3 kj28 l1 (x5_2 ++ [t337]) a0_0 a0_1 l0_2 a0_3 a0_4) else (none)) = some r := H
          have A40 := Aside0.mk A400
          clear A400
          by_cases c41 : x5_2.length < 8796093022208
          ·rw [if_pos c41] at H
           have LMc41 := Aside0.mk c41
           clear c41
           obtain ⟨y338, hy338⟩ : ∃ y_ : List ByteArray, y_ = (x5_2 ++ [t337]) := ⟨_, rfl⟩
           replace H : (vcode_Ins_line.j3 kj28 l1 y338 a0_0 a0_1 l0_2 a0_3 a0_4) = some r := by first | (rw [hy338]; with_reducible exact H) | (have H2_ := (Option.bind_some _ _).symm.trans H; rw [hy338]; with_reducible exact H2_) | (have H2_ := (Option.bind_some _ _).symm.trans H; with_reducible exact H2_) | with_reducible exact H | (rw [hy338]; exact H) | exact H
           have Ny338 := Aside0.mk hy338
           clear hy338
           have H' := Aside0.mk H
           clear H
           have ⟨hcz42_0, hcz42_1, hcz42_2, hcz42_3, hcz42_4, hfz42_0, hfz42_1, hfz42_2, hfz42_3, hfz42_4⟩ := blk5 BK320.out
           go_wp2_with (first | ((with_reducible refine gate_callee (f := 77) rfl ?_); refine goesL_ (some 65) rfl rfl Tryz.func77 Q0 rfl #[.int .i64 a0_3, .int .i64 10] rfl Q9 ?_; (with_reducible refine (strconv_FormatInt.calls a0_3 10 t337 _ ?side1 A40.out).mono ?_); (case side1 => exact GG.below Q17 HG.out); rintro e w43 ⟨rfl, hb⟩; refine ⟨_, rfl, ?_⟩; have n0_ := Aside0.mk (Kd.R_below Q28 hb); have n1_ := Aside0.mk (blk_below (g := gb320) (o := .cells #[.int .u8 a0_0, .int .i64 a0_1, .slice A0_2 l0_2.length c0_2, .int .i64 a0_3, .int .u32 a0_4] 84 (0, 0)) Q24 hb); have n2_ := Aside0.mk (below_step Q17 hb); clear HO_5; clear BK320; clear HB; have HO_5 := n0_; have BK320 := n1_; have HB := n2_; clear n0_ n1_ n2_; (try clear hb); (try clear hb2); (try clear hk); (try clear hi)) | ((with_reducible refine gate_builtin (b := .append) (xs := #[.tmp 62, .tmp 66]) rfl ?_); (try (refine gate_guard Q2 ?_; dsimp only)); at_builtin; refine Kd.R_append Kd.string (w0 := w) w.heap.size rfl (.tmp 62) (.tmp 66) 195 9 (.string ⟨#[]⟩) 16 rfl Tryz.underlying195 info9 rfl Q12 Q20 u5 x5_2 t337 [.string t337] (fun _ => True) (fun _ => False) rfl rfl ?aP (fun _ hk => hk.elim) ?aF ?aO ?aB ?aS ?aL ?_; (case aP => exact rfl); (case aB => exact Q17); (case aF => exact (fun _ _ => trivial)); (case aO => exact Q28); (case aS => exact (below_size Q17)); (case aL => have := LMc41.out; omega); intro v339 w44 ho hb hg hat; rw [← Ny338.out] at ho; have n0_ := Aside0.mk (blk_grown (g := gb320) (o := .cells #[.int .u8 a0_0, .int .i64 a0_1, .slice A0_2 l0_2.length c0_2, .int .i64 a0_3, .int .u32 a0_4] 84 (0, 0)) Q24 hg (Kd.R_ne HO_5.out BK320.out Q12)); have n1_ := Aside0.mk (hb); have n2_ := Aside0.mk (ho); clear BK320; clear HB; clear HO_5; have BK320 := n0_; have HB := n1_; have HO340 := n2_; clear n0_ n1_ n2_; clear ho hb hg hat))
           go_meet
           case rel => exact ⟨_, (y338), H', ⟨Q86⟩, ⟨by (with_reducible repeat (first | apply Kd.R_alloc | apply Kd.R_drewN | apply Kd.R_drew)); exact HO340.out⟩, ⟨Q24⟩, ⟨Q17⟩⟩
          rw [if_neg c41] at H
          exact absurd H Q8
         replace c39 := Bool.eq_false_iff.mpr c39
         subst c39
         have H1 : ((vcode_memory.f a0_0).bind fun t341 => (if t341 = true then ((strconv_FormatUint.f (IntKind.u64.wrap (a0_4)) 10).bind fun t342 => (if 1 + t342.size ≤ 9223372036854775807 then (if x5_2.length < 8796093022208 then (vcode_Ins_line.j3 kj28 l1 (x5_2 ++ [(⟨#[43]⟩ : ByteArray) ++ t342]) a0_0 a0_1 l0_2 a0_3 a0_4) else (none)) else (none))) else (vcode_Ins_line.j3 kj28 l1 x5_2 a0_0 a0_1 l0_2 a0_3 a0_4))) = some r := by rw [if_neg (show ¬ (false = true) by decide)] at H; exact H
         clear H
         have H := H1
         clear H1
         replace H := Option.bind_eq_some_iff.mp H
         obtain ⟨t341, A450, H⟩ := H
         replace H : (if t341 = true then ((strconv_FormatUint.f (IntKind.u64.wrap (a0_4)) 10).bind fun t342 => (if 1 + t342.size ≤ 9223372036854775807 then (if x5_2.length < 8796093022208 then (vcode_Ins_line.j3 kj28 l1 (x5_2 ++ [(⟨#[43]⟩ : ByteArray) ++ t342]) a0_0 a0_1 l0_2 a0_3 a0_4) else (none)) else (none))) else (vcode_Ins_line.j3 kj28 l1 x5_2 a0_0 a0_1 l0_2 a0_3 a0_4)) = some r := H
         have A45 := Aside0.mk A450
         clear A450
         by_cases c46 : t341 = true
         ·subst c46
          have H1 : ((strconv_FormatUint.f (IntKind.u64.wrap (a0_4)) 10).bind fun t342 => (if 1 + t342.size ≤ 9223372036854775807 then (if x5_2.length < 8796093022208 then (vcode_Ins_line.j3 kj28 l1 (x5_2 ++ [(⟨#[43]⟩ : ByteArray) ++ t342]) a0_0 a0_1 l0_2 a0_3 a0_4) else (none)) else (none))) = some r := Q14
          clear H
          have H := H1
          clear H1
          replace H := Option.bind_eq_some_iff.mp H
          obtain ⟨t342, A470, H⟩ := H
          replace H : (if 1 + t342.size ≤ 9223372036854775807 then (if x5_2.length < 8796093022208 then (vcode_Ins_line.j3 kj28 l1 (x5_2 ++ [(⟨#[43]⟩ : ByteArray) ++ t342]) a0_0 a0_1 l0_2 a0_3 a0_4) else (none)) else (none)) = some r := H
          have A47 := Aside0.mk A470
          clear A470
          by_cases c48 : 1 + t342.size ≤ 9223372036854775807
          ·rw [if_pos c48] at H
           have c48b0 := eq_true c48
           have c48b1 : decide (1 + t342.size ≤ 9223372036854775807) = true := decide_eq_true c48
           try have c48b2 : (9223372036854775807 < 1 + t342.size) = False := eq_false (Nat.not_lt.2 c48)
           by_cases c49 : x5_2.length < 8796093022208
           ·rw [if_pos c49] at H
            have LMc49 := Aside0.mk c49
            clear c49
            obtain ⟨y343, hy343⟩ : ∃ y_ : List ByteArray, y_ = (x5_2 ++ [(⟨#[43]⟩ : ByteArray) ++ t342]) := ⟨_, rfl⟩
            replace H : (vcode_Ins_line.j3 kj28 l1 y343 a0_0 a0_1 l0_2 a0_3 a0_4) = some r := by first | (rw [hy343]; with_reducible exact H) | (have H2_ := (Option.bind_some _ _).symm.trans H; rw [hy343]; with_reducible exact H2_) | (have H2_ := (Option.bind_some _ _).symm.trans H; with_reducible exact H2_) | with_reducible exact H | (rw [hy343]; exact H) | exact H
            have Ny343 := Aside0.mk hy343
            clear hy343
            have H' := Aside0.mk H
            clear H
            have ⟨hcz50_0, hcz50_1, hcz50_2, hcz50_3, hcz50_4, hfz50_0, hfz50_1, hfz50_2, hfz50_3, hfz50_4⟩ := blk5 BK320.out
            go_wp2_with (first | ((with_reducible refine gate_callee (f := 78) rfl ?_); refine goesL_ (some 71) rfl rfl Tryz.func78 Q0 rfl #[.int .u8 a0_0] rfl Q9 ?_; (with_reducible refine (vcode_memory.calls a0_0 true _ ?side1 A45.out).mono ?_); (case side1 => exact GG.nil _); rintro e w51 ⟨rfl, hb⟩; refine ⟨_, rfl, ?_⟩; have n0_ := Aside0.mk (Kd.R_below Q28 hb); have n1_ := Aside0.mk (blk_below (g := gb320) (o := .cells #[.int .u8 a0_0, .int .i64 a0_1, .slice A0_2 l0_2.length c0_2, .int .i64 a0_3, .int .u32 a0_4] 84 (0, 0)) Q24 hb); have n2_ := Aside0.mk (below_step Q17 hb); clear HO_5; clear BK320; clear HB; have HO_5 := n0_; have BK320 := n1_; have HB := n2_; clear n0_ n1_ n2_; (try clear hb); (try clear hb2); (try clear hk); (try clear hi); have hcz52_0 : w51.cell? ⟨gb320, 0, none⟩ = some (.int .u8 a0_0) := (blk_cell BK320.out 0).trans rfl; have hcz52_1 : w51.cell? ⟨gb320, 1, none⟩ = some (.int .i64 a0_1) := (blk_cell BK320.out 1).trans rfl; have hcz52_2 : w51.cell? ⟨gb320, 2, none⟩ = some (.slice A0_2 l0_2.length c0_2) := (blk_cell BK320.out 2).trans rfl; have hcz52_3 : w51.cell? ⟨gb320, 3, none⟩ = some (.int .i64 a0_3) := (blk_cell BK320.out 3).trans rfl; have hcz52_4 : w51.cell? ⟨gb320, 4, none⟩ = some (.int .u32 a0_4) := (blk_cell BK320.out 4).trans rfl; have hfz52_0 := blk_frozen BK320.out 0; have hfz52_1 := blk_frozen BK320.out 1; have hfz52_2 := blk_frozen BK320.out 2; have hfz52_3 := blk_frozen BK320.out 3; have hfz52_4 := blk_frozen BK320.out 4) | ((with_reducible refine gate_callee (f := 79) rfl ?_); refine goesL_ (some 76) rfl rfl Tryz.func79 Q0 rfl #[.int .u64 (IntKind.u64.wrap (a0_4)), .int .i64 10] rfl Q9 ?_; (with_reducible refine (strconv_FormatUint.calls (IntKind.u64.wrap (a0_4)) 10 t342 _ ?side1 A47.out).mono ?_); (case side1 => exact GG.below Q17 HG.out); rintro e w53 ⟨rfl, hb⟩; refine ⟨_, rfl, ?_⟩; have n0_ := Aside0.mk (Kd.R_below Q28 hb); have n1_ := Aside0.mk (blk_below (g := gb320) (o := .cells #[.int .u8 a0_0, .int .i64 a0_1, .slice A0_2 l0_2.length c0_2, .int .i64 a0_3, .int .u32 a0_4] 84 (0, 0)) Q24 hb); have n2_ := Aside0.mk (below_step Q17 hb); clear HO_5; clear BK320; clear HB; have HO_5 := n0_; have BK320 := n1_; have HB := n2_; clear n0_ n1_ n2_; (try clear hb); (try clear hb2); (try clear hk); (try clear hi)) | ((with_reducible refine gate_builtin (b := .append) (xs := #[.tmp 72, .tmp 78]) rfl ?_); (try (refine gate_guard Q2 ?_; dsimp only)); at_builtin; refine Kd.R_append Kd.string (w0 := w) w.heap.size rfl (.tmp 72) (.tmp 78) 195 9 (.string ⟨#[]⟩) 16 rfl Tryz.underlying195 info9 rfl Q12 Q20 u5 x5_2 ((⟨#[43]⟩ : ByteArray) ++ t342) [.string ((⟨#[43]⟩ : ByteArray) ++ t342)] (fun _ => True) (fun _ => False) rfl rfl ?aP (fun _ hk => hk.elim) ?aF ?aO ?aB ?aS ?aL ?_; (case aP => exact rfl); (case aB => exact Q17); (case aF => exact (fun _ _ => trivial)); (case aO => exact Q28); (case aS => exact (below_size Q17)); (case aL => have := LMc49.out; omega); intro v344 w54 ho hb hg hat; rw [← Ny343.out] at ho; have n0_ := Aside0.mk (blk_grown (g := gb320) (o := .cells #[.int .u8 a0_0, .int .i64 a0_1, .slice A0_2 l0_2.length c0_2, .int .i64 a0_3, .int .u32 a0_4] 84 (0, 0)) Q24 hg (Kd.R_ne HO_5.out BK320.out Q12)); have n1_ := Aside0.mk (hb); have n2_ := Aside0.mk (ho); clear BK320; clear HB; clear HO_5; have BK320 := n0_; have HB := n1_; have HO345 := n2_; clear n0_ n1_ n2_; clear ho hb hg hat))
            go_meet
            case rel => exact ⟨_, (y343), H', ⟨Q86⟩, ⟨by (with_reducible repeat (first | apply Kd.R_alloc | apply Kd.R_drewN | apply Kd.R_drew)); exact HO345.out⟩, ⟨Q24⟩, ⟨Q17⟩⟩
           rw [if_neg c49] at H
           exact absurd H Q8
          rw [if_neg c48] at H
          exact absurd H Q8
         replace c46 := Bool.eq_false_iff.mpr c46
         subst c46
         have H1 : (vcode_Ins_line.j3 kj28 l1 x5_2 a0_0 a0_1 l0_2 a0_3 a0_4) = some r := by rw [if_neg (show ¬ (false = true) by decide)] at H; exact H
         clear H
         have H := H1
         clear H1
         have H' := Aside0.mk H
         clear H
         have ⟨hcz55_0, hcz55_1, hcz55_2, hcz55_3, hcz55_4, hfz55_0, hfz55_1, hfz55_2, hfz55_3, hfz55_4⟩ := blk5 BK320.out
         go_wp2_with (first | ((with_reducible refine gate_callee (f := 78) rfl ?_); refine goesL_ (some 71) rfl rfl Tryz.func78 Q0 rfl #[.int .u8 a0_0] rfl Q9 ?_; (with_reducible refine (vcode_memory.calls a0_0 false _ ?side1 A45.out).mono ?_); (case side1 => exact GG.nil _); rintro e w56 ⟨rfl, hb⟩; refine ⟨_, rfl, ?_⟩; have n0_ := Aside0.mk (Kd.R_below Q28 hb); have n1_ := Aside0.mk (blk_below (g := gb320) (o := .cells #[.int .u8 a0_0, .int .i64 a0_1, .slice A0_2 l0_2.length c0_2, .int .i64 a0_3, .int .u32 a0_4] 84 (0, 0)) Q24 hb); have n2_ := Aside0.mk (below_step Q17 hb); clear HO_5; clear BK320; clear HB; have HO_5 := n0_; have BK320 := n1_; have HB := n2_; clear n0_ n1_ n2_; (try clear hb); (try clear hb2); (try clear hk); (try clear hi)))
         go_meet
         case rel => exact ⟨_, (x5_2), H', ⟨Q86⟩, ⟨Q28⟩, ⟨Q24⟩, ⟨Q17⟩⟩
      case rest =>
       clear HC28
       try clear c1
       try clear q3
       try clear hx3
       try clear c16
       try clear c21
       try clear c21b0
       try clear q33
       try clear hx33
       try clear hcz17_0 hcz17_1 hcz17_2 hcz17_3 hcz17_4 hfz17_0 hfz17_1 hfz17_2 hfz17_3 hfz17_4
       try clear hcz20_0 hcz20_1 hcz20_2 hcz20_3 hcz20_4 hfz20_0 hfz20_1 hfz20_2 hfz20_3 hfz20_4
       try clear hcz5_0 hcz5_1 hcz5_2 hcz5_3 hcz5_4 hfz5_0 hfz5_1 hfz5_2 hfz5_3 hfz5_4
       try clear hx332_0
       try clear q3
       try clear q33
       try clear q332
       obtain ⟨kq, x5_27, HA, HJ27, HO_5, BK320, HB⟩ := hcut
       cases kq with
       | zero => exact absurd HA.out (by simp [vcode_Ins_line.j3])
       | succ kj27 =>
        have H := HA.out
        clear HA
        simp only [vcode_Ins_line.j3] at H
        have HC57 := Aside0.mk H
        clear H
        go_upto_region 14 with (fail)
        go_cut [87] (fun v87 wc => ∃ (kq : Nat) (x87_56 : Bool), v87 = .bool x87_56 ∧ Aside0 (vcode_Ins_line.j4 kq l1 x5_27 x87_56 = some r) ∧ Aside0 (kq ≤ kj27) ∧ Aside0 (Kd.R Kd.string 9 wc w.heap.size (fun _ => True) u5 x5_27) ∧ Aside0 (wc.heap[gb320]? = some (.cells #[.int .u8 a0_0, .int .i64 a0_1, (.slice A0_2 l0_2.length c0_2), .int .i64 a0_3, .int .u32 a0_4] 84 (0, 0))) ∧ Aside0 (Below w.heap.size w wc))
        case first =>
         have H := HC57.out
         clear HC57
         replace H := Option.bind_eq_some_iff.mp H
         obtain ⟨t346, A580, H⟩ := H
         replace H : (if t346 = true then (vcode_Ins_line.j4 kj27 l1 x5_27 (decide ((l1.length : Int) > 0))) else (vcode_Ins_line.j4 kj27 l1 x5_27 false)) = some r := H
         have A58 := Aside0.mk A580
         clear A580
         by_cases c59 : t346 = true
         ·subst c59
          have H1 : (vcode_Ins_line.j4 kj27 l1 x5_27 (decide ((l1.length : Int) > 0))) = some r := Q14
          clear H
          have H := H1
          clear H1
          have H' := Aside0.mk H
          clear H
          have ⟨hcz60_0, hcz60_1, hcz60_2, hcz60_3, hcz60_4, hfz60_0, hfz60_1, hfz60_2, hfz60_3, hfz60_4⟩ := blk5 BK320.out
          go_wp2_with (first | ((with_reducible refine gate_callee (f := 41) rfl ?_); refine goesL_ (some 82) rfl rfl Tryz.func41 Q0 rfl #[.int .u8 a0_0] rfl Q9 ?_; (with_reducible refine (vcode_Ends.calls a0_0 true _ ?side1 A58.out).mono ?_); (case side1 => exact GG.nil _); rintro e w' ⟨rfl, ⟨nd, rfl⟩⟩; refine ⟨_, rfl, ?_⟩))
          go_meet
          case rel => exact ⟨_, (decide ((l1.length : Int) > 0)), Q3, H', ⟨Q124⟩, ⟨Q28⟩, ⟨Q24⟩, ⟨Q17⟩⟩
         replace c59 := Bool.eq_false_iff.mpr c59
         subst c59
         have H1 : (vcode_Ins_line.j4 kj27 l1 x5_27 false) = some r := by rw [if_neg (show ¬ (false = true) by decide)] at H; exact H
         clear H
         have H := H1
         clear H1
         have H' := Aside0.mk H
         clear H
         have ⟨hcz61_0, hcz61_1, hcz61_2, hcz61_3, hcz61_4, hfz61_0, hfz61_1, hfz61_2, hfz61_3, hfz61_4⟩ := blk5 BK320.out
         go_wp2_with (first | ((with_reducible refine gate_callee (f := 41) rfl ?_); refine goesL_ (some 82) rfl rfl Tryz.func41 Q0 rfl #[.int .u8 a0_0] rfl Q9 ?_; (with_reducible refine (vcode_Ends.calls a0_0 false _ ?side1 A58.out).mono ?_); (case side1 => exact GG.nil _); rintro e w' ⟨rfl, ⟨nd, rfl⟩⟩; refine ⟨_, rfl, ?_⟩))
         go_meet
         case rel => exact ⟨_, (false), Q3, H', ⟨Q124⟩, ⟨Q28⟩, ⟨Q24⟩, ⟨Q17⟩⟩
        case rest =>
         clear HC57
         try clear c1
         try clear q3
         try clear hx3
         try clear c16
         try clear c21
         try clear c21b0
         try clear q33
         try clear hx33
         try clear hcz17_0 hcz17_1 hcz17_2 hcz17_3 hcz17_4 hfz17_0 hfz17_1 hfz17_2 hfz17_3 hfz17_4
         try clear hcz20_0 hcz20_1 hcz20_2 hcz20_3 hcz20_4 hfz20_0 hfz20_1 hfz20_2 hfz20_3 hfz20_4
         try clear hcz5_0 hcz5_1 hcz5_2 hcz5_3 hcz5_4 hfz5_0 hfz5_1 hfz5_2 hfz5_3 hfz5_4
         try clear hx332_0
         try clear q3
         try clear q33
         try clear q332
         obtain ⟨kq, x87_56, rfl, HA, HJ56, HO_5, BK320, HB⟩ := hcut
         cases kq with
         | zero => exact absurd HA.out (by simp [vcode_Ins_line.j4])
         | succ kj56 =>
          have H := HA.out
          clear HA
          simp only [vcode_Ins_line.j4] at H
          by_cases c62 : x87_56 = true
          ·subst c62
           have H1 : (if x5_27.length < 8796093022208 then (vcode_Ins_line.l1 kj56 (x5_27 ++ [(⟨#[45, 62]⟩ : ByteArray)]) l1 (l1.length : Int) 0) else (none)) = some r := Q14
           clear H
           have H := H1
           clear H1
           by_cases c63 : x5_27.length < 8796093022208
           ·rw [if_pos c63] at H
            have LMc63 := Aside0.mk c63
            clear c63
            obtain ⟨y347, hy347⟩ : ∃ y_ : List ByteArray, y_ = (x5_27 ++ [(⟨#[45, 62]⟩ : ByteArray)]) := ⟨_, rfl⟩
            replace H : (vcode_Ins_line.l1 kj56 y347 l1 (l1.length : Int) 0) = some r := by first | (rw [hy347]; with_reducible exact H) | (have H2_ := (Option.bind_some _ _).symm.trans H; rw [hy347]; with_reducible exact H2_) | (have H2_ := (Option.bind_some _ _).symm.trans H; with_reducible exact H2_) | with_reducible exact H | (rw [hy347]; exact H) | exact H
            have Ny347 := Aside0.mk hy347
            clear hy347
            have H' := Aside0.mk H
            clear H
            go_wp2_with (first | ((with_reducible refine gate_builtin (b := .append) (xs := #[.tmp 88, .tmp 89]) rfl ?_); (try (refine gate_guard Q2 ?_; dsimp only)); at_builtin; refine Kd.R_append Kd.string (w0 := w) w.heap.size rfl (.tmp 88) (.tmp 89) 195 9 (.string ⟨#[]⟩) 16 rfl Tryz.underlying195 info9 rfl Q12 Q20 u5 x5_27 (⟨#[45, 62]⟩ : ByteArray) [.string (⟨#[45, 62]⟩ : ByteArray)] (fun _ => True) (fun _ => False) rfl rfl ?aP (fun _ hk => hk.elim) ?aF ?aO ?aB ?aS ?aL ?_; (case aP => exact rfl); (case aB => exact Q17); (case aF => exact (fun _ _ => trivial)); (case aO => exact Q28); (case aS => exact (below_size Q17)); (case aL => have := LMc63.out; omega); intro v348 w64 ho hb hg hat; rw [← Ny347.out] at ho; have n0_ := Aside0.mk (blk_grown (g := gb320) (o := .cells #[.int .u8 a0_0, .int .i64 a0_1, .slice A0_2 l0_2.length c0_2, .int .i64 a0_3, .int .u32 a0_4] 84 (0, 0)) Q24 hg (Kd.R_ne HO_5.out BK320.out Q12)); have n1_ := Aside0.mk (hb); have n2_ := Aside0.mk (ho); clear BK320; clear HB; clear HO_5; have BK320 := n0_; have HB := n1_; have HO349 := n2_; clear n0_ n1_ n2_; clear ho hb hg hat))
            go_loopg [5, 93] kj56 (fun kq v5 v93 w' => ∃ (x5_5 : List ByteArray) (x93_5 : Int), v93 = .int .i64 x93_5 ∧ Aside0 (vcode_Ins_line.l1 kq x5_5 l1 (l1.length : Int) x93_5 = some r) ∧ Aside0 (kq ≤ kj56) ∧ Aside0 (Kd.R Kd.string 9 w' w.heap.size (fun _ => True) v5 x5_5) ∧ Aside0 (w'.heap[gb320]? = some (.cells #[.int .u8 a0_0, .int .i64 a0_1, (.slice A0_2 l0_2.length c0_2), .int .i64 a0_3, .int .u32 a0_4] 84 (0, 0))) ∧ Aside0 (Below w.heap.size w w'))
            case atStart => exact ⟨(y347), (0), Q3, H', ⟨Nat.le_refl _⟩, ⟨by (with_reducible repeat (first | apply Kd.R_alloc | apply Kd.R_drewN | apply Kd.R_drew)); exact HO349.out⟩, ⟨Q24⟩, ⟨Q17⟩⟩
            case round =>
             clear H'
             try clear c1
             try clear q3
             try clear hx3
             try clear c16
             try clear c21
             try clear c21b0
             try clear q33
             try clear hx33
             try clear c62
             try clear c63
             try clear hcz17_0 hcz17_1 hcz17_2 hcz17_3 hcz17_4 hfz17_0 hfz17_1 hfz17_2 hfz17_3 hfz17_4
             try clear hcz20_0 hcz20_1 hcz20_2 hcz20_3 hcz20_4 hfz20_0 hfz20_1 hfz20_2 hfz20_3 hfz20_4
             try clear hcz5_0 hcz5_1 hcz5_2 hcz5_3 hcz5_4 hfz5_0 hfz5_1 hfz5_2 hfz5_3 hfz5_4
             try clear hx332_0
             try clear q3
             try clear q33
             try clear q332
             obtain ⟨x5_5, x93_5, rfl, HA, HK5, HO_5, BK320, HB⟩ := hrel
             cases gk with
             | zero => exact absurd HA.out (by simp [vcode_Ins_line.l1])
             | succ k5 =>
              have H := HA.out
              clear HA
              simp only [vcode_Ins_line.l1] at H
              by_cases c65 : x93_5 < (l1.length : Int)
              ·rw [if_pos c65] at H
               have c65b0 : decide (x93_5 < (l1.length : Int)) = true := decide_eq_true c65
               clear c65
               by_cases c66 : 0 ≤ x93_5
               ·rw [if_pos c66] at H
                have c66b0 : decide (0 ≤ x93_5) = true := decide_eq_true c66
                clear c66
                by_cases c67 : x93_5 < (l1.length : Int)
                ·rw [if_pos c67] at H
                 have c67b0 : decide (x93_5 < (l1.length : Int)) = true := decide_eq_true c67
                 clear c67
                 replace H := Option.bind_eq_some_iff.mp H
                 obtain ⟨t351, A680, H⟩ := H
                 replace H : (if x5_5.length < 8796093022208 then (vcode_Ins_line.l1 k5 (x5_5 ++ [t351]) l1 (l1.length : Int) (wrap64 (x93_5 + 1))) else (none)) = some r := H
                 have A68 := Aside0.mk A680
                 clear A680
                 by_cases c69 : x5_5.length < 8796093022208
                 ·rw [if_pos c69] at H
                  have LMc69 := Aside0.mk c69
                  clear c69
                  obtain ⟨y352, hy352⟩ : ∃ y_ : List ByteArray, y_ = (x5_5 ++ [t351]) := ⟨_, rfl⟩
                  replace H : (vcode_Ins_line.l1 k5 y352 l1 (l1.length : Int) (wrap64 (x93_5 + 1))) = some r := by first | (rw [hy352]; with_reducible exact H) | (have H2_ := (Option.bind_some _ _).symm.trans H; rw [hy352]; with_reducible exact H2_) | (have H2_ := (Option.bind_some _ _).symm.trans H; with_reducible exact H2_) | with_reducible exact H | (rw [hy352]; exact H) | exact H
                  have Ny352 := Aside0.mk hy352
                  clear hy352
                  have H' := Aside0.mk H
                  clear H
                  have p350 : 0 ≤ (x93_5 : Int) := of_decide_eq_true Q4
                  have q350 : x93_5 < (l1.length : Int) := of_decide_eq_true Q4
                  obtain ⟨ad350, e350, hx350_0⟩ := Kd.at_int HR1.out x93_5 p350 q350
                  cases e350
                  replace hx350_0 := (HB.out.cell (World.block_lt_of_cell? w _ hx350_0)).trans hx350_0
                  replace p350 := eq_true p350
                  replace q350 := eq_true q350
                  go_wp2_with (first | ((with_reducible refine gate_callee (f := 43) rfl ?_); refine goesL_ (some 99) rfl rfl Tryz.func43 Q0 rfl #[.int .i64 (rd l1 x93_5)] rfl Q9 ?_; (with_reducible refine (strconv_Itoa.calls (rd l1 x93_5) t351 _ ?side1 A68.out).mono ?_); (case side1 => exact GG.below Q17 HG.out); rintro e w70 ⟨rfl, hb⟩; refine ⟨_, rfl, ?_⟩; have n0_ := Aside0.mk (Kd.R_below Q28 hb); have n1_ := Aside0.mk (blk_below (g := gb320) (o := .cells #[.int .u8 a0_0, .int .i64 a0_1, .slice A0_2 l0_2.length c0_2, .int .i64 a0_3, .int .u32 a0_4] 84 (0, 0)) Q24 hb); have n2_ := Aside0.mk (below_step Q17 hb); clear HO_5; clear BK320; clear HB; have HO_5 := n0_; have BK320 := n1_; have HB := n2_; clear n0_ n1_ n2_; (try clear hb); (try clear hb2); (try clear hk); (try clear hi)) | ((with_reducible refine gate_builtin (b := .append) (xs := #[.tmp 97, .tmp 100]) rfl ?_); (try (refine gate_guard Q2 ?_; dsimp only)); at_builtin; refine Kd.R_append Kd.string (w0 := w) w.heap.size rfl (.tmp 97) (.tmp 100) 195 9 (.string ⟨#[]⟩) 16 rfl Tryz.underlying195 info9 rfl Q12 Q20 u5 x5_5 t351 [.string t351] (fun _ => True) (fun _ => False) rfl rfl ?aP (fun _ hk => hk.elim) ?aF ?aO ?aB ?aS ?aL ?_; (case aP => exact rfl); (case aB => exact Q17); (case aF => exact (fun _ _ => trivial)); (case aO => exact Q28); (case aS => exact (below_size Q17)); (case aL => have := LMc69.out; omega); intro v353 w71 ho hb hg hat; rw [← Ny352.out] at ho; have n0_ := Aside0.mk (blk_grown (g := gb320) (o := .cells #[.int .u8 a0_0, .int .i64 a0_1, .slice A0_2 l0_2.length c0_2, .int .i64 a0_3, .int .u32 a0_4] 84 (0, 0)) Q24 hg (Kd.R_ne HO_5.out BK320.out Q12)); have n1_ := Aside0.mk (hb); have n2_ := Aside0.mk (ho); clear BK320; clear HB; clear HO_5; have BK320 := n0_; have HB := n1_; have HO354 := n2_; clear n0_ n1_ n2_; clear ho hb hg hat))
                  go_roundg k5
                  case measure => have := HJ2.out; have := HK2.out; have := HJ27.out; have := HJ56.out; have := HK5.out; omega
                  case rel => exact ⟨(y352), (wrap64 (x93_5 + 1)), Q3, H', ⟨by have := HJ2.out; have := HK2.out; have := HJ27.out; have := HJ56.out; have := HK5.out; omega⟩, ⟨by (with_reducible repeat (first | apply Kd.R_alloc | apply Kd.R_drewN | apply Kd.R_drew)); exact HO354.out⟩, ⟨Q24⟩, ⟨Q17⟩⟩
                 rw [if_neg c69] at H
                 exact absurd H Q8
                rw [if_neg c67] at H
                exact absurd H Q8
               rw [if_neg c66] at H
               exact absurd H Q8
              rw [if_neg c65] at H
              have c65b0 : decide (x93_5 < (l1.length : Int)) = false := decide_eq_false c65
              clear c65
              replace H := Option.bind_eq_some_iff.mp H
              obtain ⟨t355, A720, H⟩ := H
              replace H : (if 2 + t355.size ≤ 9223372036854775807 then (if ((⟨#[32, 32]⟩ : ByteArray) ++ t355).size + 1 ≤ 9223372036854775807 then (some (((⟨#[32, 32]⟩ : ByteArray) ++ t355) ++ (⟨#[10]⟩ : ByteArray))) else (none)) else (none)) = some r := H
              have A72 := Aside0.mk A720
              clear A720
              by_cases c73 : 2 + t355.size ≤ 9223372036854775807
              ·rw [if_pos c73] at H
               have c73b0 := eq_true c73
               have c73b1 : decide (2 + t355.size ≤ 9223372036854775807) = true := decide_eq_true c73
               try have c73b2 : (9223372036854775807 < 2 + t355.size) = False := eq_false (Nat.not_lt.2 c73)
               by_cases c74 : ((⟨#[32, 32]⟩ : ByteArray) ++ t355).size + 1 ≤ 9223372036854775807
               ·rw [if_pos c74] at H
                have c74b0 := eq_true c74
                have c74b1 : decide (((⟨#[32, 32]⟩ : ByteArray) ++ t355).size + 1 ≤ 9223372036854775807) = true := decide_eq_true c74
                try have c74b2 : (9223372036854775807 < ((⟨#[32, 32]⟩ : ByteArray) ++ t355).size + 1) = False := eq_false (Nat.not_lt.2 c74)
                try (have c74q := c74; simp only [ByteArray.size_append, show (⟨#[32, 32]⟩ : ByteArray).size = 2 from rfl] at c74q; have c74b3 := eq_false (Nat.not_lt.2 c74q); have c74b4 := eq_true c74q; have c74b5 := decide_eq_true c74q; clear c74q)
                obtain rfl := Option.some.inj H
                obtain ⟨Ao75, co75, eo75⟩ := Kd.R_slice HO_5.out
                subst eo75
                go_wp2_with (first | ((with_reducible refine gate_callee (f := 80) rfl ?_); refine goesL_ (some 104) rfl rfl Tryz.func80 Q0 rfl #[.slice Ao75 x5_5.length co75, .string (⟨#[32]⟩ : ByteArray)] rfl Q9 ?_; (with_reducible refine (strings_Join.calls _ _ x5_5 (⟨#[32]⟩ : ByteArray) t355 _ ?side1 ?side2 ?side3 A72.out).mono ?_); (case side1 => repeat (first | exact (Kd.R_reads' HO_5.out).2.2 | (with_reducible refine Kd.C_alloc ?_ _) | (with_reducible refine Kd.C_drewN ?_ _) | (with_reducible refine Kd.C_drew ?_))); (case side2 => exact (Kd.R_reads' HO_5.out).2.1); (case side3 => exact GG.nil _); rintro e w76 ⟨rfl, hb⟩; refine ⟨_, rfl, ?_⟩; have n0_ := Aside0.mk (Kd.R_below Q28 hb); have n1_ := Aside0.mk (blk_below (g := gb320) (o := .cells #[.int .u8 a0_0, .int .i64 a0_1, .slice A0_2 l0_2.length c0_2, .int .i64 a0_3, .int .u32 a0_4] 84 (0, 0)) Q24 hb); have n2_ := Aside0.mk (below_step Q17 hb); clear HO_5; clear BK320; clear HB; have HO_5 := n0_; have BK320 := n1_; have HB := n2_; clear n0_ n1_ n2_; (try clear hb); (try clear hb2); (try clear hk); (try clear hi)))
                go_ret
                exact ⟨Q6, Q17⟩
               rw [if_neg c74] at H
               exact absurd H Q8
              rw [if_neg c73] at H
              exact absurd H Q8
           rw [if_neg c63] at H
           exact absurd H Q8
          replace c62 := Bool.eq_false_iff.mpr c62
          subst c62
          have H1 : ((strings_Join.f x5_27 (⟨#[32]⟩ : ByteArray)).bind fun t356 => (if 2 + t356.size ≤ 9223372036854775807 then (if ((⟨#[32, 32]⟩ : ByteArray) ++ t356).size + 1 ≤ 9223372036854775807 then (some (((⟨#[32, 32]⟩ : ByteArray) ++ t356) ++ (⟨#[10]⟩ : ByteArray))) else (none)) else (none))) = some r := by rw [if_neg (show ¬ (false = true) by decide)] at H; exact H
          clear H
          have H := H1
          clear H1
          replace H := Option.bind_eq_some_iff.mp H
          obtain ⟨t356, A770, H⟩ := H
          replace H : (if 2 + t356.size ≤ 9223372036854775807 then (if ((⟨#[32, 32]⟩ : ByteArray) ++ t356).size + 1 ≤ 9223372036854775807 then (some (((⟨#[32, 32]⟩ : ByteArray) ++ t356) ++ (⟨#[10]⟩ : ByteArray))) else (none)) else (none)) = some r := H
          have A77 := Aside0.mk A770
          clear A770
          by_cases c78 : 2 + t356.size ≤ 9223372036854775807
          ·rw [if_pos c78] at H
           have c78b0 := eq_true c78
           have c78b1 : decide (2 + t356.size ≤ 9223372036854775807) = true := decide_eq_true c78
           try have c78b2 : (9223372036854775807 < 2 + t356.size) = False := eq_false (Nat.not_lt.2 c78)
           by_cases c79 : ((⟨#[32, 32]⟩ : ByteArray) ++ t356).size + 1 ≤ 9223372036854775807
           ·rw [if_pos c79] at H
            have c79b0 := eq_true c79
            have c79b1 : decide (((⟨#[32, 32]⟩ : ByteArray) ++ t356).size + 1 ≤ 9223372036854775807) = true := decide_eq_true c79
            try have c79b2 : (9223372036854775807 < ((⟨#[32, 32]⟩ : ByteArray) ++ t356).size + 1) = False := eq_false (Nat.not_lt.2 c79)
            try (have c79q := c79; simp only [ByteArray.size_append, show (⟨#[32, 32]⟩ : ByteArray).size = 2 from rfl] at c79q; have c79b3 := eq_false (Nat.not_lt.2 c79q); have c79b4 := eq_true c79q; have c79b5 := decide_eq_true c79q; clear c79q)
            obtain rfl := Option.some.inj H
            obtain ⟨Ao80, co80, eo80⟩ := Kd.R_slice HO_5.out
            subst eo80
            go_wp2_with (first | ((with_reducible refine gate_callee (f := 80) rfl ?_); refine goesL_ (some 104) rfl rfl Tryz.func80 Q0 rfl #[.slice Ao80 x5_27.length co80, .string (⟨#[32]⟩ : ByteArray)] rfl Q9 ?_; (with_reducible refine (strings_Join.calls _ _ x5_27 (⟨#[32]⟩ : ByteArray) t356 _ ?side1 ?side2 ?side3 A77.out).mono ?_); (case side1 => repeat (first | exact (Kd.R_reads' HO_5.out).2.2 | (with_reducible refine Kd.C_alloc ?_ _) | (with_reducible refine Kd.C_drewN ?_ _) | (with_reducible refine Kd.C_drew ?_))); (case side2 => exact (Kd.R_reads' HO_5.out).2.1); (case side3 => exact GG.nil _); rintro e w81 ⟨rfl, hb⟩; refine ⟨_, rfl, ?_⟩; have n0_ := Aside0.mk (Kd.R_below Q28 hb); have n1_ := Aside0.mk (blk_below (g := gb320) (o := .cells #[.int .u8 a0_0, .int .i64 a0_1, .slice A0_2 l0_2.length c0_2, .int .i64 a0_3, .int .u32 a0_4] 84 (0, 0)) Q24 hb); have n2_ := Aside0.mk (below_step Q17 hb); clear HO_5; clear BK320; clear HB; have HO_5 := n0_; have BK320 := n1_; have HB := n2_; clear n0_ n1_ n2_; (try clear hb); (try clear hb2); (try clear hk); (try clear hi)))
            go_ret
            exact ⟨Q6, Q17⟩
           rw [if_neg c79] at H
           exact absurd H Q8
          rw [if_neg c78] at H
          exact absurd H Q8
   rw [if_neg c16] at H
   exact absurd H Q8
end Go.Proofs.YthgkeehpoilgaaaGreatDoor.Hw
end

import Derived.Calls
import Derived.ChangeKeysEq
import Derived.Laws.Tables
import Derived.Laws.Rows
import Derived.Outline
import Derived.Test.YthgkeehpoilgaaaGreatDoorProg
import Derived.Shelf.Strconv.Itoa1
import Derived.Shelf.Strconv.Itoa3
import Derived.Shelf.Strconv.Itoa4
import Derived.Shelf.Strings.Builder1
import Derived.Shelf.Strings.Cut
import Derived.Shelf.Strings.OnBuilder
import Derived.Shelf.Strings.Search3
import Derived.Shelf.Strings.Builder2
import Derived.Shelf.Strings.BuilderK
import Derived.Shelf.Strings.BuilderF
import Derived.Lib.Hide
import Derived.LoopTactic
import Derived.Test.YthgkeehpoilgaaaGreatDoorHwP2
section
namespace Go.Proofs.YthgkeehpoilgaaaGreatDoor.Hw
open Go.RowKit Go.Proofs.YthgkeehpoilgaaaGreatDoorW.PrintWords Go.Proofs.YthgkeehpoilgaaaGreatDoorW.PrintLast Go.Proofs.YthgkeehpoilgaaaGreatDoorW.PrintMore
attribute [local go_sem] max2_int min2_int max_two min_two max_three min_three max_four min_four
set_option linter.unusedVariables false
set_option linter.unusedSimpArgs false
mutual
def mandrellaw11_heavy.l0 : Nat → Int → Int → Int → Int → Bool → List (S80) → Option (Bool)
 | 0, _, _, _, _, _, _ => none
 | k + 1, x3, x4, x239000, x239001, x239002, x239003 => if x4 < (x239003.length : Int) then (mandrellaw11_heavy.j1 k x3 x4 (decide (x3 < 4000)) x239000 x239001 x239002 x239003) else (mandrellaw11_heavy.j1 k x3 x4 false x239000 x239001 x239002 x239003)
def mandrellaw11_heavy.j1 : Nat → Int → Int → Bool → Int → Int → Bool → List (S80) → Option (Bool)
 | 0, _, _, _, _, _, _, _ => none
 | k + 1, x3, x4, x18, x239000, x239001, x239002, x239003 => if x18 = true then (if 0 ≤ x4 then (if x4 < (x239003.length : Int) then (mandrellaw11_heavy.l1 k (wrap64 (x3 + (mn (((rd_T80 x239003 x4).f1).length : Int) 4000))) x4 0 x239000 x239001 x239002 x239003) else (none)) else (none)) else (some (decide (x3 > 1500)))
def mandrellaw11_heavy.l1 : Nat → Int → Int → Int → Int → Int → Bool → List (S80) → Option (Bool)
 | 0, _, _, _, _, _, _, _ => none
 | k + 1, x3, x4, x5, x239000, x239001, x239002, x239003 => if 0 ≤ x4 then (if x4 < (x239003.length : Int) then (if x5 < (((rd_T80 x239003 x4).f0).length : Int) then (if x3 < 4000 then (if 0 ≤ x5 then (mandrellaw11_heavy.l1 k (wrap64 ((wrap64 (x3 + 1)) + (mn (((rd_T83 ((rd_T80 x239003 x4).f0) x5).f2).length : Int) 4000))) x4 (wrap64 (x5 + 1)) x239000 x239001 x239002 x239003) else (none)) else (mandrellaw11_heavy.l0 k x3 (wrap64 (x4 + 1)) x239000 x239001 x239002 x239003)) else (mandrellaw11_heavy.l0 k x3 (wrap64 (x4 + 1)) x239000 x239001 x239002 x239003)) else (none)) else (none)
end
def mandrellaw11_heavy.f (k : Nat) (a0_0 : Int) (a0_1 : Int) (a0_2 : Bool) (l0_3 : List (S80)) : Option (Bool) := if (l0_3.length : Int) > 200 then (some true) else (mandrellaw11_heavy.l0 k 0 0 a0_0 a0_1 a0_2 l0_3)
set_option maxHeartbeats 8000000 in
set_option maxRecDepth 100000 in
theorem mandrellaw11_heavy.calls (k : Nat) (a0_0 : Int) (a0_1 : Int) (a0_2 : Bool) (A0_3 : Option Addr) (c0_3 : Nat) (l0_3 : List (S80)) (r : Bool) (w : World) (hr0_3 : Kd.C k80 w A0_3 l0_3.length l0_3) (hc0_3 : l0_3.length ≤ c0_3) (hG : GG [] w) (h : mandrellaw11_heavy.f k a0_0 a0_1 a0_2 l0_3 = some r) :
  Calls Tryz.prog 16 #[.agg #[.int .i64 a0_0, .int .i64 a0_1, .bool a0_2, .slice A0_3 l0_3.length c0_3]] w fun e w' => e = .returned (.bool r) ∧ Below w.heap.size w w' := by
 have hu24 := Tryz.underlying24
 have HR0_3 := Aside0.mk hr0_3
 have HC0_3 := Aside0.mk hc0_3
 clear hr0_3 hc0_3
 have HB := Aside0.mk (Below.refl w.heap.size w)
 have HG := Aside0.mk hG
 clear hG
 have H : (if (l0_3.length : Int) > 200 then (some true) else (mandrellaw11_heavy.l0 k 0 0 a0_0 a0_1 a0_2 l0_3)) = some r := h
 clear h
 by_cases c2 : (l0_3.length : Int) > 200
 ·rw [if_pos c2] at H
  have c2b0 : decide (200 < (l0_3.length : Int)) = true := decide_eq_true c2
  have c2b1 : decide (200 < l0_3.length) = true := decide_eq_true Q20
  clear c2
  obtain rfl := Option.some.inj H
  go_enter Tryz.func16, Tryz.ntmps16
  go_wp2_with (first | ((with_reducible refine gate_dst (N := 1) rfl ?_); refine box_event ?hg (N := 1) ?hd (cs := #[.int .i64 a0_0, .int .i64 a0_1, .bool a0_2, .slice A0_3 l0_3.length c0_3]) (t := 24) ?hr ?_; (case hd => rfl); (case hg => rfl); (case hr => first | (go_simp; done) | (go_simp; rfl)); intro gb238 hg w3 hbox hb; have n0_ := Aside0.mk (below_step Q1 hb); have n1_ := Aside0.mk (hbox); have n2_ := Aside0.mk ((Q155 : w.heap.size ≤ gb238)); have n3_ := Aside0.mk ((Q155 : w.heap.size ≤ gb238)); clear HB; have HB := n0_; have BK238 := n1_; have GW238 := n2_; have GE238 := n3_; clear n0_ n1_ n2_ n3_; clear hb hbox hg; have hcz4_0 : w3.cell? ⟨gb238, 0, none⟩ = some (.int .i64 a0_0) := (blk_cell BK238.out 0).trans rfl; have hcz4_1 : w3.cell? ⟨gb238, 1, none⟩ = some (.int .i64 a0_1) := (blk_cell BK238.out 1).trans rfl; have hcz4_2 : w3.cell? ⟨gb238, 2, none⟩ = some (.bool a0_2) := (blk_cell BK238.out 2).trans rfl; have hcz4_3 : w3.cell? ⟨gb238, 3, none⟩ = some (.slice A0_3 l0_3.length c0_3) := (blk_cell BK238.out 3).trans rfl; have hfz4_0 := blk_frozen BK238.out 0; have hfz4_1 := blk_frozen BK238.out 1; have hfz4_2 := blk_frozen BK238.out 2; have hfz4_3 := blk_frozen BK238.out 3))
  go_ret
  exact ⟨Q6, Q53⟩
 rw [if_neg c2] at H
 have c2b0 : decide (200 < (l0_3.length : Int)) = false := decide_eq_false c2
 have c2b1 : decide (200 < l0_3.length) = false := decide_eq_false Q20
 clear c2
 have H' := Aside0.mk H
 clear H
 go_enter Tryz.func16, Tryz.ntmps16
 go_wp2_with (first | ((with_reducible refine gate_dst (N := 1) rfl ?_); refine box_event ?hg (N := 1) ?hd (cs := #[.int .i64 a0_0, .int .i64 a0_1, .bool a0_2, .slice A0_3 l0_3.length c0_3]) (t := 24) ?hr ?_; (case hd => rfl); (case hg => rfl); (case hr => first | (go_simp; done) | (go_simp; rfl)); intro gb238 hg w5 hbox hb; have n0_ := Aside0.mk (below_step Q1 hb); have n1_ := Aside0.mk (hbox); have n2_ := Aside0.mk ((Q155 : w.heap.size ≤ gb238)); have n3_ := Aside0.mk ((Q155 : w.heap.size ≤ gb238)); clear HB; have HB := n0_; have BK238 := n1_; have GW238 := n2_; have GE238 := n3_; clear n0_ n1_ n2_ n3_; clear hb hbox hg; have hcz6_0 : w5.cell? ⟨gb238, 0, none⟩ = some (.int .i64 a0_0) := (blk_cell BK238.out 0).trans rfl; have hcz6_1 : w5.cell? ⟨gb238, 1, none⟩ = some (.int .i64 a0_1) := (blk_cell BK238.out 1).trans rfl; have hcz6_2 : w5.cell? ⟨gb238, 2, none⟩ = some (.bool a0_2) := (blk_cell BK238.out 2).trans rfl; have hcz6_3 : w5.cell? ⟨gb238, 3, none⟩ = some (.slice A0_3 l0_3.length c0_3) := (blk_cell BK238.out 3).trans rfl; have hfz6_0 := blk_frozen BK238.out 0; have hfz6_1 := blk_frozen BK238.out 1; have hfz6_2 := blk_frozen BK238.out 2; have hfz6_3 := blk_frozen BK238.out 3))
 go_loopg [3, 4] k (fun kq v3 v4 w' => ∃ (x3_1 : Int) (x4_1 : Int), v3 = .int .i64 x3_1 ∧ v4 = .int .i64 x4_1 ∧ Aside0 (mandrellaw11_heavy.l0 kq x3_1 x4_1 a0_0 a0_1 a0_2 l0_3 = some r) ∧ Aside0 (kq ≤ k) ∧ Aside0 (w'.heap[gb238]? = some (.cells #[.int .i64 a0_0, .int .i64 a0_1, .bool a0_2, (.slice A0_3 l0_3.length c0_3)] 24 (0, 0))) ∧ Aside0 (Below w.heap.size w w'))
 case atStart => exact ⟨(0), (0), Q3, Q3, H', ⟨Nat.le_refl _⟩, ⟨Q58⟩, ⟨Q53⟩⟩
 case round =>
  clear H'
  try clear c2
  try clear c2b0
  try clear c2b1
  try clear hcz6_0 hcz6_1 hcz6_2 hcz6_3 hfz6_0 hfz6_1 hfz6_2 hfz6_3
  obtain ⟨x3_1, x4_1, rfl, rfl, HA, HK1, BK238, HB⟩ := hrel
  cases gk with
  | zero => exact absurd HA.out (by simp [mandrellaw11_heavy.l0])
  | succ k1 =>
   have H := HA.out
   clear HA
   simp only [mandrellaw11_heavy.l0] at H
   have HC7 := Aside0.mk H
   clear H
   go_upto_region 5 with (fail)
   go_cut [18] (fun v18 wc => ∃ (kq : Nat) (x18_6 : Bool), v18 = .bool x18_6 ∧ Aside0 (mandrellaw11_heavy.j1 kq x3_1 x4_1 x18_6 a0_0 a0_1 a0_2 l0_3 = some r) ∧ Aside0 (kq ≤ k1) ∧ Aside0 (wc.heap[gb238]? = some (.cells #[.int .i64 a0_0, .int .i64 a0_1, .bool a0_2, (.slice A0_3 l0_3.length c0_3)] 24 (0, 0))) ∧ Aside0 (Below w.heap.size w wc))
   case first =>
    have H := HC7.out
    clear HC7
    by_cases c8 : x4_1 < (l0_3.length : Int)
    ·rw [if_pos c8] at H
     have c8b0 : decide (x4_1 < (l0_3.length : Int)) = true := decide_eq_true c8
     clear c8
     (first | rw [c8b0] | (simp only [i64_w, i32_w]; rw [c8b0]) | skip)
     have H' := Aside0.mk H
     clear H
     have ⟨hcz9_0, hcz9_1, hcz9_2, hcz9_3, hfz9_0, hfz9_1, hfz9_2, hfz9_3⟩ := blk4 BK238.out
     go_wp2
     go_meet
     case rel => exact ⟨_, (decide (x3_1 < 4000)), Q3, H', ⟨Q44⟩, ⟨Q58⟩, ⟨Q53⟩⟩
    rw [if_neg c8] at H
    have c8b0 : decide (x4_1 < (l0_3.length : Int)) = false := decide_eq_false c8
    clear c8
    (first | rw [c8b0] | (simp only [i64_w, i32_w]; rw [c8b0]) | skip)
    have H' := Aside0.mk H
    clear H
    have ⟨hcz10_0, hcz10_1, hcz10_2, hcz10_3, hfz10_0, hfz10_1, hfz10_2, hfz10_3⟩ := blk4 BK238.out
    go_wp2
    go_meet
    case rel => exact ⟨_, (false), Q3, H', ⟨Q44⟩, ⟨Q58⟩, ⟨Q53⟩⟩
   case rest =>
    clear HC7
    try clear c2
    try clear c2b0
    try clear c2b1
    try clear hcz6_0 hcz6_1 hcz6_2 hcz6_3 hfz6_0 hfz6_1 hfz6_2 hfz6_3
    obtain ⟨kq, x18_6, rfl, HA, HJ6, BK238, HB⟩ := hcut
    cases kq with
    | zero => exact absurd HA.out (by simp [mandrellaw11_heavy.j1])
    | succ kj6 =>
     have H := HA.out
     clear HA
     simp only [mandrellaw11_heavy.j1] at H
     by_cases c11 : x18_6 = true
     ·subst c11
      have H1 : (if 0 ≤ x4_1 then (if x4_1 < (l0_3.length : Int) then (mandrellaw11_heavy.l1 kj6 (wrap64 (x3_1 + (mn (((rd_T80 l0_3 x4_1).f1).length : Int) 4000))) x4_1 0 a0_0 a0_1 a0_2 l0_3) else (none)) else (none)) = some r := Q14
      clear H
      have H := H1
      clear H1
      by_cases c12 : 0 ≤ x4_1
      ·rw [if_pos c12] at H
       have c12b0 : decide (0 ≤ x4_1) = true := decide_eq_true c12
       clear c12
       by_cases c13 : x4_1 < (l0_3.length : Int)
       ·rw [if_pos c13] at H
        have c13b0 : decide (x4_1 < (l0_3.length : Int)) = true := decide_eq_true c13
        clear c13
        obtain ⟨ji14, hji14⟩ : ∃ j_ : Int, (mn (((rd_T80 l0_3 x4_1).f1).length : Int) 4000) = j_ := ⟨_, rfl⟩
        replace H : (mandrellaw11_heavy.l1 kj6 (wrap64 (x3_1 + (ji14))) x4_1 0 a0_0 a0_1 a0_2 l0_3) = some r := by first | (rw [hji14] at H; exact H) | (simp only [hji14] at H ⊢; exact H)
        have hji14_ : (if 4000 < (((rd_T80 l0_3 x4_1).f1).length : Int) then 4000 else (((rd_T80 l0_3 x4_1).f1).length : Int)) = ji14 := hji14
        have H' := Aside0.mk H
        clear H
        have ⟨hcz15_0, hcz15_1, hcz15_2, hcz15_3, hfz15_0, hfz15_1, hfz15_2, hfz15_3⟩ := blk4 BK238.out
        have p239 : 0 ≤ (x4_1 : Int) := of_decide_eq_true Q4
        have q239 : x4_1 < (l0_3.length : Int) := of_decide_eq_true Q4
        obtain ⟨ad239, A239_0, c239_0, A239_1, c239_1, e239, hx239_0, hx239_1, hx239_2, hl239_0, hi239_0, hl239_1, hi239_1⟩ := at_T80 HR0_3.out x4_1 p239 q239
        cases e239
        replace hx239_0 := (HB.out.cell (World.block_lt_of_cell? w _ hx239_0)).trans hx239_0
        replace hx239_1 := (HB.out.cell (World.block_lt_of_cell? w _ hx239_1)).trans hx239_1
        replace hx239_2 := (HB.out.cell (World.block_lt_of_cell? w _ hx239_2)).trans hx239_2
        have HR239_0 := Aside0.mk hi239_0
        have HC239_0 := Aside0.mk hl239_0
        clear hi239_0 hl239_0
        have HR239_1 := Aside0.mk hi239_1
        have HC239_1 := Aside0.mk hl239_1
        clear hi239_1 hl239_1
        replace p239 := eq_true p239
        replace q239 := eq_true q239
        go_wp2
        go_loopg [3, 5] kj6 (fun kq v3 v5 w' => ∃ (x3_3 : Int) (x5_3 : Int), v3 = .int .i64 x3_3 ∧ v5 = .int .i64 x5_3 ∧ Aside0 (mandrellaw11_heavy.l1 kq x3_3 x4_1 x5_3 a0_0 a0_1 a0_2 l0_3 = some r) ∧ Aside0 (kq ≤ kj6) ∧ Aside0 (w'.heap[gb238]? = some (.cells #[.int .i64 a0_0, .int .i64 a0_1, .bool a0_2, (.slice (some ad239) l0_3.length c0_3)] 24 (0, 0))) ∧ Aside0 (Below w.heap.size w w'))
        case atStart => exact ⟨(wrap64 (x3_1 + (ji14))), (0), (by first | rfl | (simp; done) | (simp only [← hji14] <;> (first | rfl | simp)) | (simp [*]; done)), Q3, H', ⟨Nat.le_refl _⟩, ⟨Q58⟩, ⟨Q53⟩⟩
        case round =>
         clear H'
         try clear c2
         try clear c2b0
         try clear c2b1
         try clear q2
         try clear hx2
         try clear c11
         try clear c12
         try clear c12b0
         try clear c13
         try clear c13b0
         try clear hcz15_0 hcz15_1 hcz15_2 hcz15_3 hfz15_0 hfz15_1 hfz15_2 hfz15_3
         try clear hcz6_0 hcz6_1 hcz6_2 hcz6_3 hfz6_0 hfz6_1 hfz6_2 hfz6_3
         try clear hx239_0
         try clear hx239_1
         try clear hx239_2
         try clear p239
         try clear q239
         obtain ⟨x3_3, x5_3, rfl, rfl, HA, HK3, BK238, HB⟩ := hrel
         cases gk with
         | zero => exact absurd HA.out (by simp [mandrellaw11_heavy.l1])
         | succ k3 =>
          have H := HA.out
          clear HA
          simp only [mandrellaw11_heavy.l1] at H
          by_cases c16 : 0 ≤ x4_1
          ·rw [if_pos c16] at H
           have c16b0 : decide (0 ≤ x4_1) = true := decide_eq_true c16
           clear c16
           by_cases c17 : x4_1 < (l0_3.length : Int)
           ·rw [if_pos c17] at H
            have c17b0 : decide (x4_1 < (l0_3.length : Int)) = true := decide_eq_true c17
            clear c17
            by_cases c18 : x5_3 < (((rd_T80 l0_3 x4_1).f0).length : Int)
            ·rw [if_pos c18] at H
             have c18b0 : decide (x5_3 < (((rd_T80 l0_3 x4_1).f0).length : Int)) = true := decide_eq_true c18
             clear c18
             by_cases c19 : x3_3 < 4000
             ·rw [if_pos c19] at H
              have c19b0 : decide (x3_3 < 4000) = true := decide_eq_true c19
              clear c19
              by_cases c20 : 0 ≤ x5_3
              ·rw [if_pos c20] at H
               have c20b0 : decide (0 ≤ x5_3) = true := decide_eq_true c20
               clear c20
               obtain ⟨ji21, hji21⟩ : ∃ j_ : Int, (mn (((rd_T83 ((rd_T80 l0_3 x4_1).f0) x5_3).f2).length : Int) 4000) = j_ := ⟨_, rfl⟩
               replace H : (mandrellaw11_heavy.l1 k3 (wrap64 ((wrap64 (x3_3 + 1)) + (ji21))) x4_1 (wrap64 (x5_3 + 1)) a0_0 a0_1 a0_2 l0_3) = some r := by first | (rw [hji21] at H; exact H) | (simp only [hji21] at H ⊢; exact H)
               have hji21_ : (if 4000 < (((rd_T83 ((rd_T80 l0_3 x4_1).f0) x5_3).f2).length : Int) then 4000 else (((rd_T83 ((rd_T80 l0_3 x4_1).f0) x5_3).f2).length : Int)) = ji21 := hji21
               have H' := Aside0.mk H
               clear H
               have ⟨hcz22_0, hcz22_1, hcz22_2, hcz22_3, hfz22_0, hfz22_1, hfz22_2, hfz22_3⟩ := blk4 BK238.out
               have p240 : 0 ≤ (x4_1 : Int) := of_decide_eq_true Q4
               have q240 : x4_1 < (l0_3.length : Int) := of_decide_eq_true Q4
               obtain ⟨ad240, A240_0, c240_0, A240_1, c240_1, e240, hx240_0, hx240_1, hx240_2, hl240_0, hi240_0, hl240_1, hi240_1⟩ := at_T80 HR0_3.out x4_1 p240 q240
               obtain rfl : ad239 = ad240 := (by injection e240)
               replace hx240_0 := (HB.out.cell (World.block_lt_of_cell? w _ hx240_0)).trans hx240_0
               replace hx240_1 := (HB.out.cell (World.block_lt_of_cell? w _ hx240_1)).trans hx240_1
               replace hx240_2 := (HB.out.cell (World.block_lt_of_cell? w _ hx240_2)).trans hx240_2
               have HR240_0 := Aside0.mk hi240_0
               have HC240_0 := Aside0.mk hl240_0
               clear hi240_0 hl240_0
               have HR240_1 := Aside0.mk hi240_1
               have HC240_1 := Aside0.mk hl240_1
               clear hi240_1 hl240_1
               replace p240 := eq_true p240
               replace q240 := eq_true q240
               have p241 : 0 ≤ (x4_1 : Int) := of_decide_eq_true Q4
               have q241 : x4_1 < (l0_3.length : Int) := of_decide_eq_true Q4
               obtain ⟨ad241, A241_0, c241_0, A241_1, c241_1, e241, hx241_0, hx241_1, hx241_2, hl241_0, hi241_0, hl241_1, hi241_1⟩ := at_T80 HR0_3.out x4_1 p241 q241
               obtain rfl : ad239 = ad241 := (by injection e241)
               replace hx241_0 := (HB.out.cell (World.block_lt_of_cell? w _ hx241_0)).trans hx241_0
               replace hx241_1 := (HB.out.cell (World.block_lt_of_cell? w _ hx241_1)).trans hx241_1
               replace hx241_2 := (HB.out.cell (World.block_lt_of_cell? w _ hx241_2)).trans hx241_2
               have HR241_0 := Aside0.mk hi241_0
               have HC241_0 := Aside0.mk hl241_0
               clear hi241_0 hl241_0
               have HR241_1 := Aside0.mk hi241_1
               have HC241_1 := Aside0.mk hl241_1
               clear hi241_1 hl241_1
               replace p241 := eq_true p241
               replace q241 := eq_true q241
               have ea_ := Option.some.inj (hx240_0.symm.trans hx241_0)
               injection ea_ with ea_ en_ ec_
               subst ea_
               subst ec_
               clear en_
               have ea_ := Option.some.inj (hx240_1.symm.trans hx241_1)
               injection ea_ with ea_ en_ ec_
               subst ea_
               subst ec_
               clear en_
               have p242 : 0 ≤ (x5_3 : Int) := of_decide_eq_true Q4
               have q242 : x5_3 < (((rd_T80 l0_3 x4_1).f0).length : Int) := of_decide_eq_true Q4
               obtain ⟨ad242, A242_2, c242_2, e242, hx242_0, hx242_1, hx242_2, hx242_3, hx242_4, hl242_2, hi242_2⟩ := at_T83 HR241_0.out x5_3 p242 q242
               cases e242
               replace hx242_0 := (HB.out.cell (World.block_lt_of_cell? w _ hx242_0)).trans hx242_0
               replace hx242_1 := (HB.out.cell (World.block_lt_of_cell? w _ hx242_1)).trans hx242_1
               replace hx242_2 := (HB.out.cell (World.block_lt_of_cell? w _ hx242_2)).trans hx242_2
               replace hx242_3 := (HB.out.cell (World.block_lt_of_cell? w _ hx242_3)).trans hx242_3
               replace hx242_4 := (HB.out.cell (World.block_lt_of_cell? w _ hx242_4)).trans hx242_4
               have HR242_2 := Aside0.mk hi242_2
               have HC242_2 := Aside0.mk hl242_2
               clear hi242_2 hl242_2
               replace p242 := eq_true p242
               replace q242 := eq_true q242
               go_wp2
               go_roundg k3
               case measure => have := HK1.out; have := HJ6.out; have := HK3.out; omega
               case rel => exact ⟨(wrap64 ((wrap64 (x3_3 + 1)) + (ji21))), (wrap64 (x5_3 + 1)), (by first | rfl | (simp; done) | (simp only [← hji21] <;> (first | rfl | simp)) | (simp [*]; done)), Q3, H', ⟨Q97⟩, ⟨Q58⟩, ⟨Q53⟩⟩
              rw [if_neg c20] at H
              exact absurd H Q8
             rw [if_neg c19] at H
             have c19b0 : decide (x3_3 < 4000) = false := decide_eq_false c19
             clear c19
             have H' := Aside0.mk H
             clear H
             have ⟨hcz23_0, hcz23_1, hcz23_2, hcz23_3, hfz23_0, hfz23_1, hfz23_2, hfz23_3⟩ := blk4 BK238.out
             have p240 : 0 ≤ (x4_1 : Int) := of_decide_eq_true Q4
             have q240 : x4_1 < (l0_3.length : Int) := of_decide_eq_true Q4
             obtain ⟨ad240, A240_0, c240_0, A240_1, c240_1, e240, hx240_0, hx240_1, hx240_2, hl240_0, hi240_0, hl240_1, hi240_1⟩ := at_T80 HR0_3.out x4_1 p240 q240
             obtain rfl : ad239 = ad240 := (by injection e240)
             replace hx240_0 := (HB.out.cell (World.block_lt_of_cell? w _ hx240_0)).trans hx240_0
             replace hx240_1 := (HB.out.cell (World.block_lt_of_cell? w _ hx240_1)).trans hx240_1
             replace hx240_2 := (HB.out.cell (World.block_lt_of_cell? w _ hx240_2)).trans hx240_2
             have HR240_0 := Aside0.mk hi240_0
             have HC240_0 := Aside0.mk hl240_0
             clear hi240_0 hl240_0
             have HR240_1 := Aside0.mk hi240_1
             have HC240_1 := Aside0.mk hl240_1
             clear hi240_1 hl240_1
             replace p240 := eq_true p240
             replace q240 := eq_true q240
             go_wp2
             go_roundg k3
             case measure => have := HK1.out; have := HJ6.out; have := HK3.out; omega
             case rel => exact ⟨(x3_3), (wrap64 (x4_1 + 1)), Q3, Q3, H', ⟨Q97⟩, ⟨Q58⟩, ⟨Q53⟩⟩
            rw [if_neg c18] at H
            have c18b0 : decide (x5_3 < (((rd_T80 l0_3 x4_1).f0).length : Int)) = false := decide_eq_false c18
            clear c18
            have H' := Aside0.mk H
            clear H
            have ⟨hcz24_0, hcz24_1, hcz24_2, hcz24_3, hfz24_0, hfz24_1, hfz24_2, hfz24_3⟩ := blk4 BK238.out
            have p240 : 0 ≤ (x4_1 : Int) := of_decide_eq_true Q4
            have q240 : x4_1 < (l0_3.length : Int) := of_decide_eq_true Q4
            obtain ⟨ad240, A240_0, c240_0, A240_1, c240_1, e240, hx240_0, hx240_1, hx240_2, hl240_0, hi240_0, hl240_1, hi240_1⟩ := at_T80 HR0_3.out x4_1 p240 q240
            obtain rfl : ad239 = ad240 := (by injection e240)
            replace hx240_0 := (HB.out.cell (World.block_lt_of_cell? w _ hx240_0)).trans hx240_0
            replace hx240_1 := (HB.out.cell (World.block_lt_of_cell? w _ hx240_1)).trans hx240_1
            replace hx240_2 := (HB.out.cell (World.block_lt_of_cell? w _ hx240_2)).trans hx240_2
            have HR240_0 := Aside0.mk hi240_0
            have HC240_0 := Aside0.mk hl240_0
            clear hi240_0 hl240_0
            have HR240_1 := Aside0.mk hi240_1
            have HC240_1 := Aside0.mk hl240_1
            clear hi240_1 hl240_1
            replace p240 := eq_true p240
            replace q240 := eq_true q240
            go_wp2
            go_roundg k3
            case measure => have := HK1.out; have := HJ6.out; have := HK3.out; omega
            case rel => exact ⟨(x3_3), (wrap64 (x4_1 + 1)), Q3, Q3, H', ⟨Q97⟩, ⟨Q58⟩, ⟨Q53⟩⟩
           rw [if_neg c17] at H
           exact absurd H Q8
          rw [if_neg c16] at H
          exact absurd H Q8
       rw [if_neg c13] at H
       exact absurd H Q8
      rw [if_neg c12] at H
      exact absurd H Q8
     replace c11 := Bool.eq_false_iff.mpr c11
     subst c11
     have H1 : (some (decide (x3_1 > 1500))) = some r := by rw [if_neg (show ¬ (false = true) by decide)] at H; exact H
     clear H
     have H := H1
     clear H1
     obtain rfl := Option.some.inj H
     go_wp2
     go_ret
     exact ⟨Q6, Q53⟩
def vcode_Size.l0 : Nat → Int → List (S87) → Int → Int → Option (Int)
 | 0, _, _, _, _ => none
 | k + 1, x3, x7, x8, x9 => if x9 < x8 then (if 0 ≤ x9 then (if x9 < (x7.length : Int) then (vcode_Size.l0 k (wrap64 (x3 + (((rd_T87 x7 x9).f0).length : Int))) x7 x8 (wrap64 (x9 + 1))) else (none)) else (none)) else (some x3)
def vcode_Size.f (k : Nat) (a0_0 : Int) (a0_1 : Int) (a0_2 : Bool) (l0_3 : List (S87)) : Option (Int) := vcode_Size.l0 k 0 l0_3 (l0_3.length : Int) 0
set_option maxHeartbeats 8000000 in
set_option maxRecDepth 100000 in
theorem vcode_Size.calls (k : Nat) (a0_0 : Int) (a0_1 : Int) (a0_2 : Bool) (A0_3 : Option Addr) (c0_3 : Nat) (l0_3 : List (S87)) (r : Int) (w : World) (hr0_3 : Kd.C k87 w A0_3 l0_3.length l0_3) (hc0_3 : l0_3.length ≤ c0_3) (hG : GG [] w) (h : vcode_Size.f k a0_0 a0_1 a0_2 l0_3 = some r) :
  Calls Tryz.prog 33 #[.agg #[.int .i64 a0_0, .int .i64 a0_1, .bool a0_2, .slice A0_3 l0_3.length c0_3]] w fun e w' => e = .returned (.int .i64 r) ∧ Below w.heap.size w w' := by
 have hu35 := Tryz.underlying35
 have hu87 := Tryz.underlying87
 have HR0_3 := Aside0.mk hr0_3
 have HC0_3 := Aside0.mk hc0_3
 clear hr0_3 hc0_3
 have HB := Aside0.mk (Below.refl w.heap.size w)
 have HG := Aside0.mk hG
 clear hG
 have H : (vcode_Size.l0 k 0 l0_3 (l0_3.length : Int) 0) = some r := h
 clear h
 have H' := Aside0.mk H
 clear H
 go_enter Tryz.func33, Tryz.ntmps33
 go_wp2_with (first | ((with_reducible refine gate_dst (N := 1) rfl ?_); refine box_event ?hg (N := 1) ?hd (cs := #[.int .i64 a0_0, .int .i64 a0_1, .bool a0_2, .slice A0_3 l0_3.length c0_3]) (t := 35) ?hr ?_; (case hd => rfl); (case hg => rfl); (case hr => first | (go_simp; done) | (go_simp; rfl)); intro gb243 hg w2 hbox hb; have n0_ := Aside0.mk (below_step Q1 hb); have n1_ := Aside0.mk (hbox); have n2_ := Aside0.mk ((Q155 : w.heap.size ≤ gb243)); have n3_ := Aside0.mk ((Q155 : w.heap.size ≤ gb243)); clear HB; have HB := n0_; have BK243 := n1_; have GW243 := n2_; have GE243 := n3_; clear n0_ n1_ n2_ n3_; clear hb hbox hg; have hcz3_0 : w2.cell? ⟨gb243, 0, none⟩ = some (.int .i64 a0_0) := (blk_cell BK243.out 0).trans rfl; have hcz3_1 : w2.cell? ⟨gb243, 1, none⟩ = some (.int .i64 a0_1) := (blk_cell BK243.out 1).trans rfl; have hcz3_2 : w2.cell? ⟨gb243, 2, none⟩ = some (.bool a0_2) := (blk_cell BK243.out 2).trans rfl; have hcz3_3 : w2.cell? ⟨gb243, 3, none⟩ = some (.slice A0_3 l0_3.length c0_3) := (blk_cell BK243.out 3).trans rfl; have hfz3_0 := blk_frozen BK243.out 0; have hfz3_1 := blk_frozen BK243.out 1; have hfz3_2 := blk_frozen BK243.out 2; have hfz3_3 := blk_frozen BK243.out 3))
 go_loopg [3, 9] k (fun kq v3 v9 w' => ∃ (x3_1 : Int) (x9_1 : Int), v3 = .int .i64 x3_1 ∧ v9 = .int .i64 x9_1 ∧ Aside0 (vcode_Size.l0 kq x3_1 l0_3 (l0_3.length : Int) x9_1 = some r) ∧ Aside0 (kq ≤ k) ∧ Aside0 (w'.heap[gb243]? = some (.cells #[.int .i64 a0_0, .int .i64 a0_1, .bool a0_2, (.slice A0_3 l0_3.length c0_3)] 35 (0, 0))) ∧ Aside0 (Below w.heap.size w w'))
 case atStart => exact ⟨(0), (0), Q3, Q3, H', ⟨Nat.le_refl _⟩, ⟨Q82⟩, ⟨Q72⟩⟩
 case round =>
  clear H'
  try clear hcz3_0 hcz3_1 hcz3_2 hcz3_3 hfz3_0 hfz3_1 hfz3_2 hfz3_3
  obtain ⟨x3_1, x9_1, rfl, rfl, HA, HK1, BK243, HB⟩ := hrel
  cases gk with
  | zero => exact absurd HA.out (by simp [vcode_Size.l0])
  | succ k1 =>
   have H := HA.out
   clear HA
   simp only [vcode_Size.l0] at H
   by_cases c4 : x9_1 < (l0_3.length : Int)
   ·rw [if_pos c4] at H
    have c4b0 : decide (x9_1 < (l0_3.length : Int)) = true := decide_eq_true c4
    clear c4
    by_cases c5 : 0 ≤ x9_1
    ·rw [if_pos c5] at H
     have c5b0 : decide (0 ≤ x9_1) = true := decide_eq_true c5
     clear c5
     by_cases c6 : x9_1 < (l0_3.length : Int)
     ·rw [if_pos c6] at H
      have c6b0 : decide (x9_1 < (l0_3.length : Int)) = true := decide_eq_true c6
      clear c6
      have H' := Aside0.mk H
      clear H
      have p244 : 0 ≤ (x9_1 : Int) := of_decide_eq_true Q4
      have q244 : x9_1 < (l0_3.length : Int) := of_decide_eq_true Q4
      obtain ⟨ad244, A244_0, c244_0, A244_1, c244_1, e244, hx244_0, hx244_1, hx244_2, hl244_0, hi244_0, hl244_1, hi244_1⟩ := at_T87 HR0_3.out x9_1 p244 q244
      cases e244
      replace hx244_0 := (HB.out.cell (World.block_lt_of_cell? w _ hx244_0)).trans hx244_0
      replace hx244_1 := (HB.out.cell (World.block_lt_of_cell? w _ hx244_1)).trans hx244_1
      replace hx244_2 := (HB.out.cell (World.block_lt_of_cell? w _ hx244_2)).trans hx244_2
      have HR244_0 := Aside0.mk hi244_0
      have HC244_0 := Aside0.mk hl244_0
      clear hi244_0 hl244_0
      have HR244_1 := Aside0.mk hi244_1
      have HC244_1 := Aside0.mk hl244_1
      clear hi244_1 hl244_1
      replace p244 := eq_true p244
      replace q244 := eq_true q244
      go_wp2_with (first | ((with_reducible refine gate_dst (N := 5) rfl ?_); refine box_event ?hg (N := 5) ?hd (cs := #[.slice none 0 0, .slice none 0 0, .int .i64 0]) (t := 87) ?hr ?_; (case hd => rfl); (case hg => rfl); (case hr => first | (go_simp; done) | (go_simp; rfl)); intro gb245 hg w7 hbox hb; have n0_ := Aside0.mk (blk_below (g := gb243) (o := .cells #[.int .i64 a0_0, .int .i64 a0_1, .bool a0_2, .slice (some ad244) l0_3.length c0_3] 35 (0, 0)) Q82 hb); have n1_ := Aside0.mk (below_step Q72 hb); have n2_ := Aside0.mk (hbox); have n3_ := Aside0.mk ((by rw [hg]; exact (below_size Q72) : w.heap.size ≤ gb245)); have n4_ := Aside0.mk ((by rw [hg]; exact (below_size Q72) : w.heap.size ≤ gb245)); have n5_ := Aside0.mk ((by rw [hg]; exact Nat.ne_of_lt (blk_lt (g := gb243) (o := .cells #[.int .i64 a0_0, .int .i64 a0_1, .bool a0_2, .slice (some ad244) l0_3.length c0_3] 35 (0, 0)) Q82) : gb243 ≠ gb245)); have n6_ := Aside0.mk ((by rw [hg]; exact Nat.ne_of_gt (blk_lt (g := gb243) (o := .cells #[.int .i64 a0_0, .int .i64 a0_1, .bool a0_2, .slice (some ad244) l0_3.length c0_3] 35 (0, 0)) Q82) : gb245 ≠ gb243)); clear BK243; clear HB; have BK243 := n0_; have HB := n1_; have BK245 := n2_; have GW245 := n3_; have GE245 := n4_; have NB243_245 := n5_; have NB245_243 := n6_; clear n0_ n1_ n2_ n3_ n4_ n5_ n6_; clear hb hbox hg; have hnb8 := NB245_243.out; have hnc8 := NB243_245.out; have hcz9_0 : w7.cell? ⟨gb245, 0, none⟩ = some (.slice none 0 0) := (blk_cell BK245.out 0).trans rfl; have hcz9_1 : w7.cell? ⟨gb245, 1, none⟩ = some (.slice none 0 0) := (blk_cell BK245.out 1).trans rfl; have hcz9_2 : w7.cell? ⟨gb245, 2, none⟩ = some (.int .i64 0) := (blk_cell BK245.out 2).trans rfl; have hfz9_0 := blk_frozen BK245.out 0; have hfz9_1 := blk_frozen BK245.out 1; have hfz9_2 := blk_frozen BK245.out 2))
      go_roundg k1
      case measure => have := HK1.out; omega
      case rel => exact ⟨(wrap64 (x3_1 + (((rd_T87 l0_3 x9_1).f0).length : Int))), (wrap64 (x9_1 + 1)), Q3, Q3, H', ⟨by have := HK1.out; omega⟩, ⟨by (with_reducible repeat (first | refine blk_drewN ?_ _ | refine blk_drew ?_ | refine blk_alloc ?_ _)); refine blk_far ?_ NB243_245.out _; (with_reducible repeat (first | refine blk_drewN ?_ _ | refine blk_drew ?_ | refine blk_alloc ?_ _)); refine blk_far ?_ NB243_245.out _; (with_reducible repeat (first | refine blk_drewN ?_ _ | refine blk_drew ?_ | refine blk_alloc ?_ _)); refine blk_far ?_ NB243_245.out _; (with_reducible repeat (first | refine blk_drewN ?_ _ | refine blk_drew ?_ | refine blk_alloc ?_ _)); exact BK243.out⟩, ⟨by repeat (first | (with_reducible first | exact HB.out | apply below_alloc | apply pw_below_drewN | apply below_drew1 | refine below_set ?_ GE243.out | refine below_set ?_ GE245.out) | exact HB.out)⟩⟩
     rw [if_neg c6] at H
     exact absurd H Q8
    rw [if_neg c5] at H
    exact absurd H Q8
   rw [if_neg c4] at H
   have c4b0 : decide (x9_1 < (l0_3.length : Int)) = false := decide_eq_false c4
   clear c4
   obtain rfl := Option.some.inj H
   go_wp2
   go_ret
   exact ⟨Q6, Q72⟩
def vcode_Ends.f (a0 : Int) : Option (Bool) := if a0 = 193 then (some true) else (if a0 = 194 then (some true) else (if a0 = 195 then (some true) else (if a0 = 15 then (some true) else (some (a0 == 0)))))
set_option maxHeartbeats 8000000 in
set_option maxRecDepth 100000 in
theorem vcode_Ends.calls (a0 : Int) (r : Bool) (w : World) (hG : GG [] w) (h : vcode_Ends.f a0 = some r) :
  Calls Tryz.prog 41 #[.int .u8 a0] w fun e w' => e = .returned (.bool r) ∧ Drawn0 w w' := by
 have HG := Aside0.mk hG
 clear hG
 have H : (if a0 = 193 then (some true) else (if a0 = 194 then (some true) else (if a0 = 195 then (some true) else (if a0 = 15 then (some true) else (some (a0 == 0)))))) = some r := h
 clear h
 by_cases c2 : a0 = 193
 ·rw [if_pos c2] at H
  have c2b0 : (a0 == 193) = true := beq_iff_eq.mpr c2
  have c2b1 : (a0 != 193) = false := bne_eq_false_iff_eq.mpr c2
  clear c2
  obtain rfl := Option.some.inj H
  go_enter Tryz.func41, Tryz.ntmps41
  go_wp2
  go_ret
  exact ⟨Q3, Q29⟩
 rw [if_neg c2] at H
 have c2b0 : (a0 == 193) = false := beq_eq_false_iff_ne.mpr c2
 have c2b1 : (a0 != 193) = true := bne_iff_ne.mpr c2
 by_cases c3 : a0 = 194
 ·rw [if_pos c3] at H
  have c3b0 : (a0 == 194) = true := beq_iff_eq.mpr c3
  have c3b1 : (a0 != 194) = false := bne_eq_false_iff_eq.mpr c3
  clear c3
  obtain rfl := Option.some.inj H
  go_enter Tryz.func41, Tryz.ntmps41
  go_wp2
  go_ret
  exact ⟨Q3, Q29⟩
 rw [if_neg c3] at H
 have c3b0 : (a0 == 194) = false := beq_eq_false_iff_ne.mpr c3
 have c3b1 : (a0 != 194) = true := bne_iff_ne.mpr c3
 by_cases c4 : a0 = 195
 ·rw [if_pos c4] at H
  have c4b0 : (a0 == 195) = true := beq_iff_eq.mpr c4
  have c4b1 : (a0 != 195) = false := bne_eq_false_iff_eq.mpr c4
  clear c4
  obtain rfl := Option.some.inj H
  go_enter Tryz.func41, Tryz.ntmps41
  go_wp2
  go_ret
  exact ⟨Q3, Q29⟩
 rw [if_neg c4] at H
 have c4b0 : (a0 == 195) = false := beq_eq_false_iff_ne.mpr c4
 have c4b1 : (a0 != 195) = true := bne_iff_ne.mpr c4
 by_cases c5 : a0 = 15
 ·rw [if_pos c5] at H
  have c5b0 : (a0 == 15) = true := beq_iff_eq.mpr c5
  have c5b1 : (a0 != 15) = false := bne_eq_false_iff_eq.mpr c5
  clear c5
  obtain rfl := Option.some.inj H
  go_enter Tryz.func41, Tryz.ntmps41
  go_wp2
  go_ret
  exact ⟨Q3, Q29⟩
 rw [if_neg c5] at H
 have c5b0 : (a0 == 15) = false := beq_eq_false_iff_ne.mpr c5
 have c5b1 : (a0 != 15) = true := bne_iff_ne.mpr c5
 obtain rfl := Option.some.inj H
 go_enter Tryz.func41, Tryz.ntmps41
 go_wp2
 go_ret
 exact ⟨Q3, Q29⟩
end Go.Proofs.YthgkeehpoilgaaaGreatDoor.Hw
end
section
namespace Go.Proofs.YthgkeehpoilgaaaGreatDoor.Hw
def opsTab : List ByteArray := [
  ⟨#[117, 110, 114, 101, 97, 99, 104, 97, 98, 108, 101]⟩,
  ⟨#[110, 111, 112]⟩,
  ⟨#[98, 108, 111, 99, 107]⟩,
  ⟨#[108, 111, 111, 112]⟩,
  ⟨#[105, 102]⟩,
  ⟨#[]⟩,
  ⟨#[]⟩,
  ⟨#[]⟩,
  ⟨#[]⟩,
  ⟨#[]⟩,
  ⟨#[]⟩,
  ⟨#[]⟩,
  ⟨#[98, 114]⟩,
  ⟨#[98, 114, 95, 105, 102]⟩,
  ⟨#[98, 114, 95, 116, 97, 98, 108, 101]⟩,
  ⟨#[114, 101, 116, 117, 114, 110]⟩,
  ⟨#[99, 97, 108, 108]⟩,
  ⟨#[99, 97, 108, 108, 95, 105, 110, 100, 105, 114, 101, 99, 116]⟩,
  ⟨#[]⟩,
  ⟨#[]⟩,
  ⟨#[]⟩,
  ⟨#[]⟩,
  ⟨#[]⟩,
  ⟨#[]⟩,
  ⟨#[]⟩,
  ⟨#[]⟩,
  ⟨#[100, 114, 111, 112]⟩,
  ⟨#[115, 101, 108, 101, 99, 116]⟩,
  ⟨#[]⟩,
  ⟨#[]⟩,
  ⟨#[]⟩,
  ⟨#[]⟩,
  ⟨#[108, 111, 99, 97, 108, 46, 103, 101, 116]⟩,
  ⟨#[108, 111, 99, 97, 108, 46, 115, 101, 116]⟩,
  ⟨#[108, 111, 99, 97, 108, 46, 116, 101, 101]⟩,
  ⟨#[103, 108, 111, 98, 97, 108, 46, 103, 101, 116]⟩,
  ⟨#[103, 108, 111, 98, 97, 108, 46, 115, 101, 116]⟩,
  ⟨#[]⟩,
  ⟨#[]⟩,
  ⟨#[]⟩,
  ⟨#[105, 51, 50, 46, 108, 111, 97, 100]⟩,
  ⟨#[105, 54, 52, 46, 108, 111, 97, 100]⟩,
  ⟨#[]⟩,
  ⟨#[]⟩,
  ⟨#[105, 51, 50, 46, 108, 111, 97, 100, 56, 95, 115]⟩,
  ⟨#[105, 51, 50, 46, 108, 111, 97, 100, 56, 95, 117]⟩,
  ⟨#[105, 51, 50, 46, 108, 111, 97, 100, 49, 54, 95, 115]⟩,
  ⟨#[105, 51, 50, 46, 108, 111, 97, 100, 49, 54, 95, 117]⟩,
  ⟨#[105, 54, 52, 46, 108, 111, 97, 100, 56, 95, 115]⟩,
  ⟨#[105, 54, 52, 46, 108, 111, 97, 100, 56, 95, 117]⟩,
  ⟨#[105, 54, 52, 46, 108, 111, 97, 100, 49, 54, 95, 115]⟩,
  ⟨#[105, 54, 52, 46, 108, 111, 97, 100, 49, 54, 95, 117]⟩,
  ⟨#[105, 54, 52, 46, 108, 111, 97, 100, 51, 50, 95, 115]⟩,
  ⟨#[105, 54, 52, 46, 108, 111, 97, 100, 51, 50, 95, 117]⟩,
  ⟨#[105, 51, 50, 46, 115, 116, 111, 114, 101]⟩,
  ⟨#[105, 54, 52, 46, 115, 116, 111, 114, 101]⟩,
  ⟨#[]⟩,
  ⟨#[]⟩,
  ⟨#[105, 51, 50, 46, 115, 116, 111, 114, 101, 56]⟩,
  ⟨#[105, 51, 50, 46, 115, 116, 111, 114, 101, 49, 54]⟩,
  ⟨#[105, 54, 52, 46, 115, 116, 111, 114, 101, 56]⟩,
  ⟨#[105, 54, 52, 46, 115, 116, 111, 114, 101, 49, 54]⟩,
  ⟨#[105, 54, 52, 46, 115, 116, 111, 114, 101, 51, 50]⟩,
  ⟨#[109, 101, 109, 111, 114, 121, 46, 115, 105, 122, 101]⟩,
  ⟨#[109, 101, 109, 111, 114, 121, 46, 103, 114, 111, 119]⟩,
  ⟨#[105, 51, 50, 46, 99, 111, 110, 115, 116]⟩,
  ⟨#[105, 54, 52, 46, 99, 111, 110, 115, 116]⟩,
  ⟨#[]⟩,
  ⟨#[]⟩,
  ⟨#[105, 51, 50, 46, 101, 113, 122]⟩,
  ⟨#[105, 51, 50, 46, 101, 113]⟩,
  ⟨#[105, 51, 50, 46, 110, 101]⟩,
  ⟨#[105, 51, 50, 46, 108, 116, 95, 115]⟩,
  ⟨#[105, 51, 50, 46, 108, 116, 95, 117]⟩,
  ⟨#[105, 51, 50, 46, 103, 116, 95, 115]⟩,
  ⟨#[105, 51, 50, 46, 103, 116, 95, 117]⟩,
  ⟨#[105, 51, 50, 46, 108, 101, 95, 115]⟩,
  ⟨#[105, 51, 50, 46, 108, 101, 95, 117]⟩,
  ⟨#[105, 51, 50, 46, 103, 101, 95, 115]⟩,
  ⟨#[105, 51, 50, 46, 103, 101, 95, 117]⟩,
  ⟨#[105, 54, 52, 46, 101, 113, 122]⟩,
  ⟨#[105, 54, 52, 46, 101, 113]⟩,
  ⟨#[105, 54, 52, 46, 110, 101]⟩,
  ⟨#[105, 54, 52, 46, 108, 116, 95, 115]⟩,
  ⟨#[105, 54, 52, 46, 108, 116, 95, 117]⟩,
  ⟨#[105, 54, 52, 46, 103, 116, 95, 115]⟩,
  ⟨#[105, 54, 52, 46, 103, 116, 95, 117]⟩,
  ⟨#[105, 54, 52, 46, 108, 101, 95, 115]⟩,
  ⟨#[105, 54, 52, 46, 108, 101, 95, 117]⟩,
  ⟨#[105, 54, 52, 46, 103, 101, 95, 115]⟩,
  ⟨#[105, 54, 52, 46, 103, 101, 95, 117]⟩,
  ⟨#[]⟩,
  ⟨#[]⟩,
  ⟨#[]⟩,
  ⟨#[]⟩,
  ⟨#[]⟩,
  ⟨#[]⟩,
  ⟨#[]⟩,
  ⟨#[]⟩,
  ⟨#[]⟩,
  ⟨#[]⟩,
  ⟨#[]⟩,
  ⟨#[]⟩,
  ⟨#[105, 51, 50, 46, 99, 108, 122]⟩,
  ⟨#[105, 51, 50, 46, 99, 116, 122]⟩,
  ⟨#[105, 51, 50, 46, 112, 111, 112, 99, 110, 116]⟩,
  ⟨#[105, 51, 50, 46, 97, 100, 100]⟩,
  ⟨#[105, 51, 50, 46, 115, 117, 98]⟩,
  ⟨#[105, 51, 50, 46, 109, 117, 108]⟩,
  ⟨#[105, 51, 50, 46, 100, 105, 118, 95, 115]⟩,
  ⟨#[105, 51, 50, 46, 100, 105, 118, 95, 117]⟩,
  ⟨#[105, 51, 50, 46, 114, 101, 109, 95, 115]⟩,
  ⟨#[105, 51, 50, 46, 114, 101, 109, 95, 117]⟩,
  ⟨#[105, 51, 50, 46, 97, 110, 100]⟩,
  ⟨#[105, 51, 50, 46, 111, 114]⟩,
  ⟨#[105, 51, 50, 46, 120, 111, 114]⟩,
  ⟨#[105, 51, 50, 46, 115, 104, 108]⟩,
  ⟨#[105, 51, 50, 46, 115, 104, 114, 95, 115]⟩,
  ⟨#[105, 51, 50, 46, 115, 104, 114, 95, 117]⟩,
  ⟨#[105, 51, 50, 46, 114, 111, 116, 108]⟩,
  ⟨#[105, 51, 50, 46, 114, 111, 116, 114]⟩,
  ⟨#[105, 54, 52, 46, 99, 108, 122]⟩,
  ⟨#[105, 54, 52, 46, 99, 116, 122]⟩,
  ⟨#[105, 54, 52, 46, 112, 111, 112, 99, 110, 116]⟩,
  ⟨#[105, 54, 52, 46, 97, 100, 100]⟩,
  ⟨#[105, 54, 52, 46, 115, 117, 98]⟩,
  ⟨#[105, 54, 52, 46, 109, 117, 108]⟩,
  ⟨#[105, 54, 52, 46, 100, 105, 118, 95, 115]⟩,
  ⟨#[105, 54, 52, 46, 100, 105, 118, 95, 117]⟩,
  ⟨#[105, 54, 52, 46, 114, 101, 109, 95, 115]⟩,
  ⟨#[105, 54, 52, 46, 114, 101, 109, 95, 117]⟩,
  ⟨#[105, 54, 52, 46, 97, 110, 100]⟩,
  ⟨#[105, 54, 52, 46, 111, 114]⟩,
  ⟨#[105, 54, 52, 46, 120, 111, 114]⟩,
  ⟨#[105, 54, 52, 46, 115, 104, 108]⟩,
  ⟨#[105, 54, 52, 46, 115, 104, 114, 95, 115]⟩,
  ⟨#[105, 54, 52, 46, 115, 104, 114, 95, 117]⟩,
  ⟨#[105, 54, 52, 46, 114, 111, 116, 108]⟩,
  ⟨#[105, 54, 52, 46, 114, 111, 116, 114]⟩,
  ⟨#[]⟩,
  ⟨#[]⟩,
  ⟨#[]⟩,
  ⟨#[]⟩,
  ⟨#[]⟩,
  ⟨#[]⟩,
  ⟨#[]⟩,
  ⟨#[]⟩,
  ⟨#[]⟩,
  ⟨#[]⟩,
  ⟨#[]⟩,
  ⟨#[]⟩,
  ⟨#[]⟩,
  ⟨#[]⟩,
  ⟨#[]⟩,
  ⟨#[]⟩,
  ⟨#[]⟩,
  ⟨#[]⟩,
  ⟨#[]⟩,
  ⟨#[]⟩,
  ⟨#[]⟩,
  ⟨#[]⟩,
  ⟨#[]⟩,
  ⟨#[]⟩,
  ⟨#[]⟩,
  ⟨#[]⟩,
  ⟨#[]⟩,
  ⟨#[]⟩,
  ⟨#[105, 51, 50, 46, 119, 114, 97, 112, 95, 105, 54, 52]⟩,
  ⟨#[]⟩,
  ⟨#[]⟩,
  ⟨#[]⟩,
  ⟨#[]⟩,
  ⟨#[105, 54, 52, 46, 101, 120, 116, 101, 110, 100, 95, 105, 51, 50, 95, 115]⟩,
  ⟨#[105, 54, 52, 46, 101, 120, 116, 101, 110, 100, 95, 105, 51, 50, 95, 117]⟩
]
end Go.Proofs.YthgkeehpoilgaaaGreatDoor.Hw
end
section
namespace Go.Proofs.YthgkeehpoilgaaaGreatDoor.Hw
open Go.RowKit Go.Proofs.YthgkeehpoilgaaaGreatDoorW.PrintWords Go.Proofs.YthgkeehpoilgaaaGreatDoorW.PrintLast Go.Proofs.YthgkeehpoilgaaaGreatDoorW.PrintMore
attribute [local go_sem] max2_int min2_int max_two min_two max_three min_three max_four min_four
set_option linter.unusedVariables false
set_option linter.unusedSimpArgs false
theorem run_index_arr {P : Program} {t e : TypeId} {n : Nat} {cs : Array Value} {k : IntKind} {i : Int} {v : Value} {w : World}
    (h : P.underlying t = some (.array n e)) (h0 : 0 ≤ i) (h1 : i < n) (ha : ∀ w, (isAgg e).run P w = .ok false w) (hs : ∀ w, (sizeOf e).run P w = .ok 1 w) (hv : cs[i.toNat]? = some v) :
    (Instr.index t (.agg cs) (.int k i)).run P w = .ok v w := by
  have hn : 0 ≤ i ∧ i < (n : Int) := ⟨h0, h1⟩
  simp [Instr.index, run_underlying h, asIntOf, hn, hs, part, ha, hv, go_sem]
theorem wpList_build_is {P : Program} {ops : Array Oper} {rest : List Oper} {o : Oper} {a : Act} {w : World} {Q : Exit → Act → World → Prop} (hg : o.guard = none) (t : TypeId) (parts : Array (Nat × Operand)) (ho : o.op = .build t parts)
    (cells : Array Value) (hf : P.built t (parts.map fun (i, x) => (i, a.eval x)).toList = some cells)
    (h : wpList P ops Q rest (a.put o.dst (.agg cells)) w) : wpList P ops Q (o :: rest) a w :=
  wpList_build hg t parts ho (by rw [hf]; rfl) (by rw [hf]; exact h)
def opsCells : Array Value := (opsTab.map Value.string).toArray
def opsZeros : Array Value := Array.replicate 174 (Value.string ⟨#[]⟩)
theorem below_setRow {B : Nat} {w W : World} (h : Below B w W) {g : Nat} (hg : B ≤ g) (cs : Array Value) : Below B w (W.setRow g cs) :=
  ⟨h.os, h.tape, h.output, by simpa using h.size, fun i hi => by rw [setRow_other _ _ _ _ (by omega)]; exact h.block i hi⟩
set_option maxRecDepth 100000 in
theorem ops_names_any (w : World) : Calls Tryz.prog 109 #[] w fun e w' => e = .returned (.agg opsCells) ∧ Below w.heap.size w w' := by
  have hz : ∀ w, (zeroValue 240).run Tryz.prog w = .ok (.agg opsZeros) w := fun _ => by kernel_rfl
  go_enter Tryz.func109, Tryz.ntmps109
  go_wp2_with (first | (refine wpList_build_is rfl 240 _ rfl opsCells (by kernel_rfl) ?_) | (refine wpList_store_row rfl 240 _ _ rfl w.heap.size opsCells rfl rfl 240 opsZeros (heap_alloc_new _ _) (by kernel_rfl) (by kernel_rfl) (by kernel_rfl) ?_))
  refine bodyPost_ret (results_cell_row rfl _ _ w.heap.size 240 opsCells (0, 0) _ rfl (setRow_heap _ _ _ _ _ _ (heap_alloc_new _ _)) Tryz.underlying240 rfl (by kernel_rfl)) rfl ⟨rfl, ?_⟩
  exact below_setRow ((Below.refl _ _).alloc (Nat.le_refl _) _) (Nat.le_refl _) _
def ops_Name.f (a0 : Int) : Option ByteArray := if 0 ≤ a0 ∧ a0 ≤ 255 then some (opsTab.getD a0.toNat ⟨#[]⟩) else none
theorem opsTab_len : opsTab.length = 174 := by decide +kernel
theorem ops_Name.calls (a0 : Int) (r : ByteArray) (w : World) (hG : GG [] w) (h : ops_Name.f a0 = some r) :
    Calls Tryz.prog 98 #[.int .u8 a0] w fun e w' => e = .returned (.string r) ∧ Below w.heap.size w w' := by
  clear hG
  unfold ops_Name.f at h
  split at h
  case isFalse => cases h
  rename_i hr
  obtain ⟨h0, h1⟩ := hr
  by_cases hlt : a0 < 174
  · have hidx : ∀ W, (Instr.index 240 (.agg opsCells) (.int .u8 a0)).run Tryz.prog W = .ok (.string r) W := fun W =>
      run_index_arr Tryz.underlying240 h0 hlt (fun _ => by kernel_rfl) (fun _ => by kernel_rfl) (by
        have hl := opsTab_len
        have : a0.toNat < opsTab.length := by omega
        simp only [opsCells, List.getElem?_toArray, List.getElem?_map, List.getElem?_eq_getElem this]
        rw [List.getD_eq_getElem?_getD, List.getElem?_eq_getElem this] at h
        simpa using h)
    clear h
    go_enter Tryz.func98, Tryz.ntmps98
    go_wp2_with (go_at_call 109; refine (ops_names_any _).mono ?_; rintro e w1 ⟨rfl, hb1⟩)
    go_ret
    rename_i w0 hb0 _
    exact ⟨rfl, below_then hb0 hb0.size hb1⟩
  · have hz : r = ⟨#[]⟩ := by
      have hl := opsTab_len
      rw [List.getD_eq_getElem?_getD, List.getElem?_eq_none (by omega)] at h
      exact (Option.some.inj h).symm
    clear h
    go_enter Tryz.func98, Tryz.ntmps98
    go_wp2_with (go_at_call 109; refine (ops_names_any _).mono ?_; rintro e w1 ⟨rfl, hb1⟩)
    go_ret
    exact ⟨by rw [hz]; rfl, hb1⟩
def vcode_memory.f (a0 : Int) : Option (Bool) := if a0 ≥ 40 then (if a0 ≤ 62 then ((ops_Name.f a0).bind fun t246 => (some (t246.toList != ([] : List UInt8)))) else (some false)) else (some false)
set_option maxHeartbeats 8000000 in
set_option maxRecDepth 100000 in
theorem vcode_memory.calls (a0 : Int) (r : Bool) (w : World) (hG : GG [] w) (h : vcode_memory.f a0 = some r) :
  Calls Tryz.prog 78 #[.int .u8 a0] w fun e w' => e = .returned (.bool r) ∧ Below w.heap.size w w' := by
 have HB := Aside0.mk (Below.refl w.heap.size w)
 have HG := Aside0.mk hG
 clear hG
 have H : (if a0 ≥ 40 then (if a0 ≤ 62 then ((ops_Name.f a0).bind fun t246 => (some (t246.toList != ([] : List UInt8)))) else (some false)) else (some false)) = some r := h
 clear h
 by_cases c2 : a0 ≥ 40
 ·rw [if_pos c2] at H
  have c2b0 : decide (40 ≤ a0) = true := decide_eq_true c2
  clear c2
  by_cases c3 : a0 ≤ 62
  ·rw [if_pos c3] at H
   have c3b0 : decide (a0 ≤ 62) = true := decide_eq_true c3
   clear c3
   replace H := Option.bind_eq_some_iff.mp H
   obtain ⟨t246, A40, H⟩ := H
   replace H : (some (t246.toList != ([] : List UInt8))) = some r := H
   have A4 := Aside0.mk A40
   clear A40
   obtain rfl := Option.some.inj H
   go_enter Tryz.func78, Tryz.ntmps78
   go_wp2_with (first | (go_at_call 98; (with_reducible refine (ops_Name.calls a0 t246 _ ?side1 A4.out).mono ?_); (case side1 => exact GG.nil _); rintro e w5 ⟨rfl, hb⟩; have n0_ := Aside0.mk (below_step Q1 hb); clear HB; have HB := n0_; clear n0_; (try clear hb); (try clear hb2); (try clear hk); (try clear hi)))
   go_ret
   exact ⟨Q6, Q1⟩
  rw [if_neg c3] at H
  have c3b0 : decide (a0 ≤ 62) = false := decide_eq_false c3
  clear c3
  obtain rfl := Option.some.inj H
  go_enter Tryz.func78, Tryz.ntmps78
  go_wp2
  go_ret
  exact ⟨Q6, Q1⟩
 rw [if_neg c2] at H
 have c2b0 : decide (40 ≤ a0) = false := decide_eq_false c2
 clear c2
 obtain rfl := Option.some.inj H
 go_enter Tryz.func78, Tryz.ntmps78
 go_wp2
 go_ret
 exact ⟨Q6, Q1⟩
def vcode_follows.f (a0 : Int) (a1 : Int) : Option (Bool) := if a0 = 193 then (some (a1 == 1)) else (if a0 = 194 then (some (a1 == 2)) else (if a0 = 195 then (if a1 ≥ 1 then (some (decide (a1 ≤ 257))) else (some false)) else (some (a1 == 0))))
set_option maxHeartbeats 8000000 in
set_option maxRecDepth 100000 in
theorem vcode_follows.calls (a0 : Int) (a1 : Int) (r : Bool) (w : World) (hG : GG [] w) (h : vcode_follows.f a0 a1 = some r) :
  Calls Tryz.prog 87 #[.int .u8 a0, .int .i64 a1] w fun e w' => e = .returned (.bool r) ∧ Drawn0 w w' := by
 have HG := Aside0.mk hG
 clear hG
 have H : (if a0 = 193 then (some (a1 == 1)) else (if a0 = 194 then (some (a1 == 2)) else (if a0 = 195 then (if a1 ≥ 1 then (some (decide (a1 ≤ 257))) else (some false)) else (some (a1 == 0))))) = some r := h
 clear h
 by_cases c3 : a0 = 193
 ·rw [if_pos c3] at H
  have c3b0 : (a0 == 193) = true := beq_iff_eq.mpr c3
  have c3b1 : (a0 != 193) = false := bne_eq_false_iff_eq.mpr c3
  clear c3
  obtain rfl := Option.some.inj H
  go_enter Tryz.func87, Tryz.ntmps87
  go_wp2
  go_ret
  exact ⟨Q3, Q29⟩
 rw [if_neg c3] at H
 have c3b0 : (a0 == 193) = false := beq_eq_false_iff_ne.mpr c3
 have c3b1 : (a0 != 193) = true := bne_iff_ne.mpr c3
 by_cases c4 : a0 = 194
 ·rw [if_pos c4] at H
  have c4b0 : (a0 == 194) = true := beq_iff_eq.mpr c4
  have c4b1 : (a0 != 194) = false := bne_eq_false_iff_eq.mpr c4
  clear c4
  obtain rfl := Option.some.inj H
  go_enter Tryz.func87, Tryz.ntmps87
  go_wp2
  go_ret
  exact ⟨Q3, Q29⟩
 rw [if_neg c4] at H
 have c4b0 : (a0 == 194) = false := beq_eq_false_iff_ne.mpr c4
 have c4b1 : (a0 != 194) = true := bne_iff_ne.mpr c4
 by_cases c5 : a0 = 195
 ·rw [if_pos c5] at H
  have c5b0 : (a0 == 195) = true := beq_iff_eq.mpr c5
  have c5b1 : (a0 != 195) = false := bne_eq_false_iff_eq.mpr c5
  clear c5
  by_cases c6 : a1 ≥ 1
  ·rw [if_pos c6] at H
   have c6b0 : decide (1 ≤ a1) = true := decide_eq_true c6
   clear c6
   obtain rfl := Option.some.inj H
   go_enter Tryz.func87, Tryz.ntmps87
   go_wp2
   go_ret
   exact ⟨Q3, Q29⟩
  rw [if_neg c6] at H
  have c6b0 : decide (1 ≤ a1) = false := decide_eq_false c6
  clear c6
  obtain rfl := Option.some.inj H
  go_enter Tryz.func87, Tryz.ntmps87
  go_wp2
  go_ret
  exact ⟨Q3, Q29⟩
 rw [if_neg c5] at H
 have c5b0 : (a0 == 195) = false := beq_eq_false_iff_ne.mpr c5
 have c5b1 : (a0 != 195) = true := bne_iff_ne.mpr c5
 obtain rfl := Option.some.inj H
 go_enter Tryz.func87, Tryz.ntmps87
 go_wp2
 go_ret
 exact ⟨Q3, Q29⟩
def vcode_reckons.f (a0 : Int) : Option (Bool) := if a0 > 66 then ((ops_Name.f a0).bind fun t247 => (some (t247.toList != ([] : List UInt8)))) else (some false)
set_option maxHeartbeats 8000000 in
set_option maxRecDepth 100000 in
theorem vcode_reckons.calls (a0 : Int) (r : Bool) (w : World) (hG : GG [] w) (h : vcode_reckons.f a0 = some r) :
  Calls Tryz.prog 72 #[.int .u8 a0] w fun e w' => e = .returned (.bool r) ∧ Below w.heap.size w w' := by
 have HB := Aside0.mk (Below.refl w.heap.size w)
 have HG := Aside0.mk hG
 clear hG
 have H : (if a0 > 66 then ((ops_Name.f a0).bind fun t247 => (some (t247.toList != ([] : List UInt8)))) else (some false)) = some r := h
 clear h
 by_cases c2 : a0 > 66
 ·rw [if_pos c2] at H
  have c2b0 : decide (66 < a0) = true := decide_eq_true c2
  clear c2
  replace H := Option.bind_eq_some_iff.mp H
  obtain ⟨t247, A30, H⟩ := H
  replace H : (some (t247.toList != ([] : List UInt8))) = some r := H
  have A3 := Aside0.mk A30
  clear A30
  obtain rfl := Option.some.inj H
  go_enter Tryz.func72, Tryz.ntmps72
  go_wp2_with (first | (go_at_call 98; (with_reducible refine (ops_Name.calls a0 t247 _ ?side1 A3.out).mono ?_); (case side1 => exact GG.nil _); rintro e w4 ⟨rfl, hb⟩; have n0_ := Aside0.mk (below_step Q1 hb); clear HB; have HB := n0_; clear n0_; (try clear hb); (try clear hb2); (try clear hk); (try clear hi)))
  go_ret
  exact ⟨Q6, Q1⟩
 rw [if_neg c2] at H
 have c2b0 : decide (66 < a0) = false := decide_eq_false c2
 clear c2
 obtain rfl := Option.some.inj H
 go_enter Tryz.func72, Tryz.ntmps72
 go_wp2
 go_ret
 exact ⟨Q6, Q1⟩
def stringslite_HasPrefix.f (a0 : ByteArray) (a1 : ByteArray) : Option (Bool) := if (a0.size : Int) ≥ (a1.size : Int) then (if 0 ≤ (a1.size : Int) then (if (a1.size : Int) ≤ (a0.size : Int) then (some ((a0.extract 0 ((a1.size : Int) : Int).toNat).toList == a1.toList)) else (none)) else (none)) else (some false)
set_option maxHeartbeats 8000000 in
set_option maxRecDepth 100000 in
theorem stringslite_HasPrefix.calls (a0 : ByteArray) (a1 : ByteArray) (r : Bool) (w : World) (hG : GG [] w) (h : stringslite_HasPrefix.f a0 a1 = some r) :
  Calls Tryz.prog 129 #[.string a0, .string a1] w fun e w' => e = .returned (.bool r) ∧ Drawn0 w w' := by
 have HG := Aside0.mk hG
 clear hG
 have H : (if (a0.size : Int) ≥ (a1.size : Int) then (if 0 ≤ (a1.size : Int) then (if (a1.size : Int) ≤ (a0.size : Int) then (some ((a0.extract 0 ((a1.size : Int) : Int).toNat).toList == a1.toList)) else (none)) else (none)) else (some false)) = some r := h
 clear h
 by_cases c3 : (a0.size : Int) ≥ (a1.size : Int)
 ·rw [if_pos c3] at H
  have c3b0 : decide ((a1.size : Int) ≤ (a0.size : Int)) = true := decide_eq_true c3
  have c3b1 : decide (a1.size ≤ a0.size) = true := decide_eq_true (Int.ofNat_le.mp c3)
  clear c3
  by_cases c4 : 0 ≤ (a1.size : Int)
  ·rw [if_pos c4] at H
   have c4b0 := eq_true c4
   have c4b1 : decide (0 ≤ (a1.size : Int)) = true := decide_eq_true c4
   clear c4
   by_cases c5 : (a1.size : Int) ≤ (a0.size : Int)
   ·rw [if_pos c5] at H
    have c5b0 := eq_true c5
    have c5b1 : decide ((a1.size : Int) ≤ (a0.size : Int)) = true := decide_eq_true c5
    clear c5
    obtain rfl := Option.some.inj H
    go_enter Tryz.func129, Tryz.ntmps129
    go_wp2
    go_ret
    exact ⟨Q3, Q29⟩
   rw [if_neg c5] at H
   exact absurd H Q8
  rw [if_neg c4] at H
  exact absurd H Q8
 rw [if_neg c3] at H
 have c3b0 : decide ((a1.size : Int) ≤ (a0.size : Int)) = false := decide_eq_false c3
 have c3b1 : decide (a1.size ≤ a0.size) = false := decide_eq_false (fun h => c3 (Int.ofNat_le.mpr h))
 clear c3
 obtain rfl := Option.some.inj H
 go_enter Tryz.func129, Tryz.ntmps129
 go_wp2
 go_ret
 exact ⟨Q3, Q29⟩
def strings_HasPrefix.f (a0 : ByteArray) (a1 : ByteArray) : Option (Bool) := (stringslite_HasPrefix.f a0 a1).bind fun t248 => (some t248)
set_option maxHeartbeats 8000000 in
set_option maxRecDepth 100000 in
theorem strings_HasPrefix.calls (a0 : ByteArray) (a1 : ByteArray) (r : Bool) (w : World) (hG : GG [] w) (h : strings_HasPrefix.f a0 a1 = some r) :
  Calls Tryz.prog 125 #[.string a0, .string a1] w fun e w' => e = .returned (.bool r) ∧ Drawn0 w w' := by
 have HG := Aside0.mk hG
 clear hG
 have H : ((stringslite_HasPrefix.f a0 a1).bind fun t248 => (some t248)) = some r := h
 clear h
 replace H := Option.bind_eq_some_iff.mp H
 obtain ⟨t248, A30, H⟩ := H
 replace H : (some t248) = some r := H
 have A3 := Aside0.mk A30
 clear A30
 obtain rfl := Option.some.inj H
 go_enter Tryz.func125, Tryz.ntmps125
 go_wp2_with (first | ((with_reducible refine gate_callee (f := 129) rfl ?_); refine goesL_ (some 7) rfl rfl Tryz.func129 Q0 rfl #[.string a0, .string a1] rfl Q9 ?_; (with_reducible refine (stringslite_HasPrefix.calls a0 a1 t248 _ ?side1 A3.out).mono ?_); (case side1 => exact GG.nil _); rintro e w' ⟨rfl, ⟨nd, rfl⟩⟩; refine ⟨_, rfl, ?_⟩))
 go_ret
 exact ⟨Q3, Q29⟩
def ops_own.f (a0 : ByteArray) : Option (Int) := (strings_HasPrefix.f a0 (⟨#[105, 54, 52, 46]⟩ : ByteArray)).bind fun t249 => (if t249 = true then (some 126) else (some 127))
set_option maxHeartbeats 8000000 in
set_option maxRecDepth 100000 in
theorem ops_own.calls (a0 : ByteArray) (r : Int) (w : World) (hG : GG [] w) (h : ops_own.f a0 = some r) :
  Calls Tryz.prog 122 #[.string a0] w fun e w' => e = .returned (.int .u8 r) ∧ Drawn0 w w' := by
 have HG := Aside0.mk hG
 clear hG
 have H : ((strings_HasPrefix.f a0 (⟨#[105, 54, 52, 46]⟩ : ByteArray)).bind fun t249 => (if t249 = true then (some 126) else (some 127))) = some r := h
 clear h
 replace H := Option.bind_eq_some_iff.mp H
 obtain ⟨t249, A20, H⟩ := H
 replace H : (if t249 = true then (some 126) else (some 127)) = some r := H
 have A2 := Aside0.mk A20
 clear A20
 by_cases c3 : t249 = true
 ·subst c3
  have H1 : (some 126) = some r := Q14
  clear H
  have H := H1
  clear H1
  obtain rfl := Option.some.inj H
  go_enter Tryz.func122, Tryz.ntmps122
  go_wp2_with (first | ((with_reducible refine gate_callee (f := 125) rfl ?_); refine goesL_ (some 4) rfl rfl Tryz.func125 Q0 rfl #[.string a0, .string (⟨#[105, 54, 52, 46]⟩ : ByteArray)] rfl Q9 ?_; (with_reducible refine (strings_HasPrefix.calls a0 (⟨#[105, 54, 52, 46]⟩ : ByteArray) true _ ?side1 A2.out).mono ?_); (case side1 => exact GG.nil _); rintro e w' ⟨rfl, ⟨nd, rfl⟩⟩; refine ⟨_, rfl, ?_⟩))
  go_ret
  exact ⟨Q3, Q29⟩
 replace c3 := Bool.eq_false_iff.mpr c3
 subst c3
 have H1 : (some 127) = some r := by rw [if_neg (show ¬ (false = true) by decide)] at H; exact H
 clear H
 have H := H1
 clear H1
 obtain rfl := Option.some.inj H
 go_enter Tryz.func122, Tryz.ntmps122
 go_wp2_with (first | ((with_reducible refine gate_callee (f := 125) rfl ?_); refine goesL_ (some 4) rfl rfl Tryz.func125 Q0 rfl #[.string a0, .string (⟨#[105, 54, 52, 46]⟩ : ByteArray)] rfl Q9 ?_; (with_reducible refine (strings_HasPrefix.calls a0 (⟨#[105, 54, 52, 46]⟩ : ByteArray) false _ ?side1 A2.out).mono ?_); (case side1 => exact GG.nil _); rintro e w' ⟨rfl, ⟨nd, rfl⟩⟩; refine ⟨_, rfl, ?_⟩))
 go_ret
 exact ⟨Q3, Q29⟩
end Go.Proofs.YthgkeehpoilgaaaGreatDoor.Hw
end
section
namespace Go.Proofs
open Go.Shelf
def Tryz.lays170_ren : Go.Shelf.Ren := ⟨fun | 170 => 45 | n => n, fun | 70 => 110 | 3 => 3 | 0 => 0 | 72 => 113 | 37 => 111 | 5 => 5 | n => n, fun | n => n⟩
theorem Tryz.lays170 : Go.Proofs.Lays.n170 Tryz.prog Tryz.lays170_ren := {
  mixed := by kernel_rfl
  f170 := Tryz.func45.trans (congrArg some (by kernel_rfl))
  t0 := Tryz.underlying0
  a0 := Tryz.isAgg0
  z0 := Tryz.sizeOf0
  v0 := Tryz.zeroValue0
  t3 := Tryz.underlying3
  a3 := Tryz.isAgg3
  z3 := Tryz.sizeOf3
  v3 := Tryz.zeroValue3
  t37 := Tryz.underlying111
  a37 := Tryz.isAgg111
  z37 := Tryz.sizeOf111
  v37 := Tryz.zeroValue111
  t70 := Tryz.underlying110
  a70 := Tryz.isAgg110
  z70 := Tryz.sizeOf110
  v70 := Tryz.zeroValue110
  t72 := Tryz.underlying113
  a72 := Tryz.isAgg113
  z72 := Tryz.sizeOf113
  v72 := Tryz.zeroValue113 }
def Tryz.lays169_ren : Go.Shelf.Ren := ⟨fun | 169 => 46 | n => n, fun | 70 => 110 | 9 => 9 | 0 => 0 | 72 => 113 | 37 => 111 | 127 => 200 | 3 => 3 | 5 => 5 | n => n, fun | n => n⟩
theorem Tryz.lays169 : Go.Proofs.Lays.n169 Tryz.prog Tryz.lays169_ren := {
  mixed := by kernel_rfl
  f169 := Tryz.func46.trans (congrArg some (by kernel_rfl))
  t0 := Tryz.underlying0
  a0 := Tryz.isAgg0
  z0 := Tryz.sizeOf0
  v0 := Tryz.zeroValue0
  t3 := Tryz.underlying3
  a3 := Tryz.isAgg3
  z3 := Tryz.sizeOf3
  v3 := Tryz.zeroValue3
  t9 := Tryz.underlying9
  a9 := Tryz.isAgg9
  z9 := Tryz.sizeOf9
  v9 := Tryz.zeroValue9
  t37 := Tryz.underlying111
  a37 := Tryz.isAgg111
  z37 := Tryz.sizeOf111
  v37 := Tryz.zeroValue111
  t70 := Tryz.underlying110
  a70 := Tryz.isAgg110
  z70 := Tryz.sizeOf110
  v70 := Tryz.zeroValue110
  t72 := Tryz.underlying113
  a72 := Tryz.isAgg113
  z72 := Tryz.sizeOf113
  v72 := Tryz.zeroValue113
  t127 := Tryz.underlying200
  a127 := Tryz.isAgg200
  z127 := Tryz.sizeOf200
  v127 := Tryz.zeroValue200 }
theorem Tryz.Builder_Extra_169 : Builder.Extra Tryz.prog Tryz.lays169_ren := {
  sizeBuilder := by kernel_rfl
  liesBuilder := by kernel_rfl
  t5 := Tryz.underlying5
  a5 := Tryz.isAgg5
  z5 := Tryz.sizeOf5
  v5 := Tryz.zeroValue5
  infoByte := by kernel_rfl
  cellsByte := by kernel_rfl
  sizeByte := by kernel_rfl
  neB5 := by decide }
def Tryz.lays156_ren : Go.Shelf.Ren := ⟨fun | 156 => 80 | 165 => 102 | 166 => 42 | 169 => 46 | 240 => 73 | 241 => 114 | 276 => 99 | 277 => 121 | n => n, fun | 31 => 195 | 9 => 9 | 3 => 3 | 4 => 4 | 0 => 0 | 20 => 20 | 72 => 113 | 76 => 37 | 70 => 110 | 37 => 111 | 75 => 30 | 127 => 200 | 164 => 180 | 5 => 5 | 80 => 118 | n => n, fun | n => n⟩
theorem Tryz.lays156 : Go.Proofs.Lays.n156 Tryz.prog Tryz.lays156_ren := {
  mixed := by kernel_rfl
  f156 := Tryz.func80.trans (congrArg some (by kernel_rfl))
  f165 := Tryz.func102.trans (congrArg some (by kernel_rfl))
  f166 := Tryz.func42.trans (congrArg some (by kernel_rfl))
  f169 := Tryz.func46.trans (congrArg some (by kernel_rfl))
  f240 := Tryz.func73.trans (congrArg some (by kernel_rfl))
  f241 := Tryz.func114.trans (congrArg some (by kernel_rfl))
  f276 := Tryz.func99.trans (congrArg some (by kernel_rfl))
  f277 := Tryz.func121.trans (congrArg some (by kernel_rfl))
  t0 := Tryz.underlying0
  a0 := Tryz.isAgg0
  z0 := Tryz.sizeOf0
  v0 := Tryz.zeroValue0
  t3 := Tryz.underlying3
  a3 := Tryz.isAgg3
  z3 := Tryz.sizeOf3
  v3 := Tryz.zeroValue3
  t4 := Tryz.underlying4
  a4 := Tryz.isAgg4
  z4 := Tryz.sizeOf4
  v4 := Tryz.zeroValue4
  t9 := Tryz.underlying9
  a9 := Tryz.isAgg9
  z9 := Tryz.sizeOf9
  v9 := Tryz.zeroValue9
  t20 := Tryz.underlying20
  a20 := Tryz.isAgg20
  z20 := Tryz.sizeOf20
  v20 := Tryz.zeroValue20
  t31 := Tryz.underlying195
  a31 := Tryz.isAgg195
  z31 := Tryz.sizeOf195
  v31 := Tryz.zeroValue195
  t37 := Tryz.underlying111
  a37 := Tryz.isAgg111
  z37 := Tryz.sizeOf111
  v37 := Tryz.zeroValue111
  t70 := Tryz.underlying110
  a70 := Tryz.isAgg110
  z70 := Tryz.sizeOf110
  v70 := Tryz.zeroValue110
  t72 := Tryz.underlying113
  a72 := Tryz.isAgg113
  z72 := Tryz.sizeOf113
  v72 := Tryz.zeroValue113
  t75 := Tryz.underlying30
  a75 := Tryz.isAgg30
  z75 := Tryz.sizeOf30
  v75 := Tryz.zeroValue30
  t76 := Tryz.underlying37
  a76 := Tryz.isAgg37
  z76 := Tryz.sizeOf37
  v76 := Tryz.zeroValue37
  t127 := Tryz.underlying200
  a127 := Tryz.isAgg200
  z127 := Tryz.sizeOf200
  v127 := Tryz.zeroValue200
  t164 := Tryz.underlying180
  a164 := Tryz.isAgg180
  z164 := Tryz.sizeOf180
  v164 := Tryz.zeroValue180 }
theorem Tryz.Builder_Extra_156 : Builder.Extra Tryz.prog Tryz.lays156_ren := {
  sizeBuilder := by kernel_rfl
  liesBuilder := by kernel_rfl
  t5 := Tryz.underlying5
  a5 := Tryz.isAgg5
  z5 := Tryz.sizeOf5
  v5 := Tryz.zeroValue5
  infoByte := by kernel_rfl
  cellsByte := by kernel_rfl
  sizeByte := by kernel_rfl
  neB5 := by decide }
open Go.RowKit in
theorem Tryz.strings_Join_none (a : Option Addr) (c : Nat) (sep : ByteArray) (w : World) :
    Calls Tryz.prog 80 #[.slice a 0 c, .string sep] w fun e w' => e = .returned (.string ⟨#[]⟩) ∧ w' = w := Any.strings_Join_none Tryz.lays156 Tryz.Builder_Extra_156 a c sep w
open Go.RowKit in
theorem Tryz.strings_Join (bk o c : Nat) (xs : List ByteArray) (sep : ByteArray) (w : World) (hcells : ∀ (j : Nat) x, xs[j]? = some x → w.cell? ⟨bk, o + j, none⟩ = some (.string x)) (hbk : bk < w.heap.size) (hN : xs.length ≤ 140737488355328) (hcap : xs.length ≤ c) (hlen : (Lib.join (xs.map (·.data.toList)) sep.data.toList).length ≤ 140737488355328) :
    Calls Tryz.prog 80 #[.slice (some ⟨bk, o, none⟩) xs.length c, .string sep] w fun e w' => e = .returned (.string ⟨(Lib.join (xs.map (·.data.toList)) sep.data.toList).toArray⟩) ∧ Below w.heap.size w w' := Any.strings_Join Tryz.lays156 Tryz.Builder_Extra_156 bk o c xs sep w hcells hbk hN hcap hlen
def Tryz.lays283_ren : Go.Shelf.Ren := ⟨fun | 283 => 110 | n => n, fun | 3 => 3 | 9 => 9 | 4 => 4 | n => n, fun | n => n⟩
theorem Tryz.lays283 : Go.Proofs.Lays.n283 Tryz.prog Tryz.lays283_ren := {
  mixed := by kernel_rfl
  f283 := Tryz.func110.trans (congrArg some (by kernel_rfl))
  t3 := Tryz.underlying3
  a3 := Tryz.isAgg3
  z3 := Tryz.sizeOf3
  v3 := Tryz.zeroValue3
  t4 := Tryz.underlying4
  a4 := Tryz.isAgg4
  z4 := Tryz.sizeOf4
  v4 := Tryz.zeroValue4
  t9 := Tryz.underlying9
  a9 := Tryz.isAgg9
  z9 := Tryz.sizeOf9
  v9 := Tryz.zeroValue9 }
open Go.Lib in
theorem Tryz.internal_strconv_small (i : Nat) (h : i < 100) (w : World) :
    Calls Tryz.prog 110 #[.int .i64 i] w fun e w' => e = .returned (.string ⟨(Lib.decDigits i).toArray⟩) ∧ w' = w := Any.internal_strconv_small Tryz.lays283 i h w
def Tryz.laysM171_ren : Go.Shelf.Ren := ⟨fun | 171 => 43 | 243 => 74 | 246 => 100 | 283 => 110 | 284 => 111 | 285 => 112 | 286 => 113 | 129 => 117 | 317 => 116 | 318 => 118 | 319 => 119 | 320 => 120 | 337 => 124 | 338 => 86 | n => n, fun | 3 => 3 | 9 => 9 | 2 => 2 | 4 => 4 | 171 => 242 | 0 => 0 | 53 => 198 | 37 => 111 | 5 => 5 | 173 => 244 | 212 => 249 | 51 => 81 | 20 => 20 | 213 => 250 | 46 => 232 | 232 => 258 | 233 => 231 | n => n, fun | 17 => 2 | 18 => 4 | 19 => 1 | n => n⟩
theorem Tryz.laysM171 : Go.Proofs.LaysM.n171 Tryz.prog Tryz.laysM171_ren := {
  mixed := by kernel_rfl
  f129 := Tryz.func117.trans (congrArg some (by kernel_rfl))
  f171 := Tryz.func43.trans (congrArg some (by kernel_rfl))
  f243 := Tryz.func74.trans (congrArg some (by kernel_rfl))
  f246 := Tryz.func100.trans (congrArg some (by kernel_rfl))
  f283 := Tryz.func110.trans (congrArg some (by kernel_rfl))
  f284 := Tryz.func111.trans (congrArg some (by kernel_rfl))
  f285 := Tryz.func112.trans (congrArg some (by kernel_rfl))
  f286 := Tryz.func113.trans (congrArg some (by kernel_rfl))
  f317 := Tryz.func116.trans (congrArg some (by kernel_rfl))
  f318 := Tryz.func118.trans (congrArg some (by kernel_rfl))
  f319 := Tryz.func119.trans (congrArg some (by kernel_rfl))
  f320 := Tryz.func120.trans (congrArg some (by kernel_rfl))
  f337 := Tryz.func124.trans (congrArg some (by kernel_rfl))
  f338 := Tryz.func86.trans (congrArg some (by kernel_rfl))
  t0 := Tryz.underlying0
  a0 := Tryz.isAgg0
  z0 := Tryz.sizeOf0
  v0 := Tryz.zeroValue0
  t2 := Tryz.underlying2
  a2 := Tryz.isAgg2
  z2 := Tryz.sizeOf2
  v2 := Tryz.zeroValue2
  t3 := Tryz.underlying3
  a3 := Tryz.isAgg3
  z3 := Tryz.sizeOf3
  v3 := Tryz.zeroValue3
  t4 := Tryz.underlying4
  a4 := Tryz.isAgg4
  z4 := Tryz.sizeOf4
  v4 := Tryz.zeroValue4
  t5 := Tryz.underlying5
  a5 := Tryz.isAgg5
  z5 := Tryz.sizeOf5
  v5 := Tryz.zeroValue5
  t9 := Tryz.underlying9
  a9 := Tryz.isAgg9
  z9 := Tryz.sizeOf9
  v9 := Tryz.zeroValue9
  t20 := Tryz.underlying20
  a20 := Tryz.isAgg20
  z20 := Tryz.sizeOf20
  v20 := Tryz.zeroValue20
  t37 := Tryz.underlying111
  a37 := Tryz.isAgg111
  z37 := Tryz.sizeOf111
  v37 := Tryz.zeroValue111
  t46 := Tryz.underlying232
  a46 := Tryz.isAgg232
  z46 := Tryz.sizeOf232
  v46 := Tryz.zeroValue232
  t51 := Tryz.underlying81
  a51 := Tryz.isAgg81
  z51 := Tryz.sizeOf81
  v51 := Tryz.zeroValue81
  t53 := Tryz.underlying198
  a53 := Tryz.isAgg198
  z53 := Tryz.sizeOf198
  v53 := Tryz.zeroValue198
  t171 := Tryz.underlying242
  a171 := Tryz.isAgg242
  z171 := Tryz.sizeOf242
  v171 := Tryz.zeroValue242
  t173 := Tryz.underlying244
  a173 := Tryz.isAgg244
  z173 := Tryz.sizeOf244
  v173 := Tryz.zeroValue244
  t212 := Tryz.underlying249
  a212 := Tryz.isAgg249
  z212 := Tryz.sizeOf249
  v212 := Tryz.zeroValue249
  t213 := Tryz.underlying250
  a213 := Tryz.isAgg250
  z213 := Tryz.sizeOf250
  t232 := Tryz.underlying258
  a232 := Tryz.isAgg258
  z232 := Tryz.sizeOf258
  v232 := Tryz.zeroValue258
  t233 := Tryz.underlying231
  a233 := Tryz.isAgg231
  z233 := Tryz.sizeOf231
  v233 := Tryz.zeroValue231
  g17 := by kernel_rfl
  g18 := by kernel_rfl
  g19 := by kernel_rfl
  i0 := by kernel_rfl
  i2 := by kernel_rfl
  i3 := by kernel_rfl
  i4 := by kernel_rfl
  i5 := by kernel_rfl
  i9 := by kernel_rfl
  i20 := by kernel_rfl
  i37 := by kernel_rfl
  i46 := by kernel_rfl
  i51 := by kernel_rfl
  i53 := by kernel_rfl
  i171 := by kernel_rfl
  i173 := by kernel_rfl
  i212 := by kernel_rfl
  i232 := by kernel_rfl
  i233 := by kernel_rfl
  m17 := by kernel_rfl
  m18 := by kernel_rfl
  m19 := by kernel_rfl }
open Go.RowKit Go.Sort Go.Lib in
theorem Tryz.strconv_Itoa (n : Int) (h0 : -9223372036854775808 ≤ n) (h1 : n ≤ 9223372036854775807) (w : World) (htab : Lib.TabIs Tryz.prog w "internal/strconv.uint64pow10" .u64 Lib.pow10Tab) :
    Calls Tryz.prog 43 #[.int .i64 n] w fun e w' => e = .returned (.string ⟨(Lib.itoa n).toArray⟩) ∧ ∃ k os, w' = grow (w.drewN k) os := Any.strconv_Itoa Tryz.laysM171 n h0 h1 w htab
def Tryz.laysM173_ren : Go.Shelf.Ren := ⟨fun | 173 => 77 | 246 => 100 | 283 => 110 | 284 => 111 | 285 => 112 | 286 => 113 | 129 => 117 | 317 => 116 | 318 => 118 | 319 => 119 | 320 => 120 | 337 => 124 | 338 => 86 | n => n, fun | 2 => 2 | 3 => 3 | 9 => 9 | 4 => 4 | 171 => 242 | 0 => 0 | 53 => 198 | 37 => 111 | 5 => 5 | 173 => 244 | 212 => 249 | 51 => 81 | 20 => 20 | 213 => 250 | 46 => 232 | 232 => 258 | 233 => 231 | n => n, fun | 17 => 2 | 18 => 4 | 19 => 1 | n => n⟩
theorem Tryz.laysM173 : Go.Proofs.LaysM.n173 Tryz.prog Tryz.laysM173_ren := {
  mixed := by kernel_rfl
  f129 := Tryz.func117.trans (congrArg some (by kernel_rfl))
  f173 := Tryz.func77.trans (congrArg some (by kernel_rfl))
  f246 := Tryz.func100.trans (congrArg some (by kernel_rfl))
  f283 := Tryz.func110.trans (congrArg some (by kernel_rfl))
  f284 := Tryz.func111.trans (congrArg some (by kernel_rfl))
  f285 := Tryz.func112.trans (congrArg some (by kernel_rfl))
  f286 := Tryz.func113.trans (congrArg some (by kernel_rfl))
  f317 := Tryz.func116.trans (congrArg some (by kernel_rfl))
  f318 := Tryz.func118.trans (congrArg some (by kernel_rfl))
  f319 := Tryz.func119.trans (congrArg some (by kernel_rfl))
  f320 := Tryz.func120.trans (congrArg some (by kernel_rfl))
  f337 := Tryz.func124.trans (congrArg some (by kernel_rfl))
  f338 := Tryz.func86.trans (congrArg some (by kernel_rfl))
  t0 := Tryz.underlying0
  a0 := Tryz.isAgg0
  z0 := Tryz.sizeOf0
  v0 := Tryz.zeroValue0
  t2 := Tryz.underlying2
  a2 := Tryz.isAgg2
  z2 := Tryz.sizeOf2
  v2 := Tryz.zeroValue2
  t3 := Tryz.underlying3
  a3 := Tryz.isAgg3
  z3 := Tryz.sizeOf3
  v3 := Tryz.zeroValue3
  t4 := Tryz.underlying4
  a4 := Tryz.isAgg4
  z4 := Tryz.sizeOf4
  v4 := Tryz.zeroValue4
  t5 := Tryz.underlying5
  a5 := Tryz.isAgg5
  z5 := Tryz.sizeOf5
  v5 := Tryz.zeroValue5
  t9 := Tryz.underlying9
  a9 := Tryz.isAgg9
  z9 := Tryz.sizeOf9
  v9 := Tryz.zeroValue9
  t20 := Tryz.underlying20
  a20 := Tryz.isAgg20
  z20 := Tryz.sizeOf20
  v20 := Tryz.zeroValue20
  t37 := Tryz.underlying111
  a37 := Tryz.isAgg111
  z37 := Tryz.sizeOf111
  v37 := Tryz.zeroValue111
  t46 := Tryz.underlying232
  a46 := Tryz.isAgg232
  z46 := Tryz.sizeOf232
  v46 := Tryz.zeroValue232
  t51 := Tryz.underlying81
  a51 := Tryz.isAgg81
  z51 := Tryz.sizeOf81
  v51 := Tryz.zeroValue81
  t53 := Tryz.underlying198
  a53 := Tryz.isAgg198
  z53 := Tryz.sizeOf198
  v53 := Tryz.zeroValue198
  t171 := Tryz.underlying242
  a171 := Tryz.isAgg242
  z171 := Tryz.sizeOf242
  v171 := Tryz.zeroValue242
  t173 := Tryz.underlying244
  a173 := Tryz.isAgg244
  z173 := Tryz.sizeOf244
  v173 := Tryz.zeroValue244
  t212 := Tryz.underlying249
  a212 := Tryz.isAgg249
  z212 := Tryz.sizeOf249
  v212 := Tryz.zeroValue249
  t213 := Tryz.underlying250
  a213 := Tryz.isAgg250
  z213 := Tryz.sizeOf250
  t232 := Tryz.underlying258
  a232 := Tryz.isAgg258
  z232 := Tryz.sizeOf258
  v232 := Tryz.zeroValue258
  t233 := Tryz.underlying231
  a233 := Tryz.isAgg231
  z233 := Tryz.sizeOf231
  v233 := Tryz.zeroValue231
  g17 := by kernel_rfl
  g18 := by kernel_rfl
  g19 := by kernel_rfl
  i0 := by kernel_rfl
  i2 := by kernel_rfl
  i3 := by kernel_rfl
  i4 := by kernel_rfl
  i5 := by kernel_rfl
  i9 := by kernel_rfl
  i20 := by kernel_rfl
  i37 := by kernel_rfl
  i46 := by kernel_rfl
  i51 := by kernel_rfl
  i53 := by kernel_rfl
  i171 := by kernel_rfl
  i173 := by kernel_rfl
  i212 := by kernel_rfl
  i232 := by kernel_rfl
  i233 := by kernel_rfl
  m17 := by kernel_rfl
  m18 := by kernel_rfl
  m19 := by kernel_rfl }
open Go.RowKit Go.Sort Go.Lib in
theorem Tryz.strconv_FormatInt_10 (n : Int) (h0 : -9223372036854775808 ≤ n) (h1 : n ≤ 9223372036854775807) (w : World) (htab : Lib.TabIs Tryz.prog w "internal/strconv.uint64pow10" .u64 Lib.pow10Tab) :
    Calls Tryz.prog 77 #[.int .i64 n, .int .i64 10] w fun e w' => e = .returned (.string ⟨(Lib.itoa n).toArray⟩) ∧ ∃ k os, w' = grow (w.drewN k) os := Any.strconv_FormatInt_10 Tryz.laysM173 n h0 h1 w htab
def Tryz.lays144_ren : Go.Shelf.Ren := ⟨fun | 144 => 128 | 143 => 132 | 219 => 133 | 217 => 134 | 225 => 135 | 224 => 136 | 267 => 137 | 266 => 138 | 314 => 139 | n => n, fun | 9 => 9 | 4 => 4 | 3 => 3 | 5 => 5 | 46 => 232 | 146 => 261 | 51 => 81 | n => n, fun | 1 => 3 | n => n⟩
theorem Tryz.lays144 : Go.Proofs.Lays.n144 Tryz.prog Tryz.lays144_ren := {
  mixed := by kernel_rfl
  f143 := Tryz.func132.trans (congrArg some (by kernel_rfl))
  f144 := Tryz.func128.trans (congrArg some (by kernel_rfl))
  f217 := Tryz.func134.trans (congrArg some (by kernel_rfl))
  f219 := Tryz.func133.trans (congrArg some (by kernel_rfl))
  f224 := Tryz.func136.trans (congrArg some (by kernel_rfl))
  f225 := Tryz.func135.trans (congrArg some (by kernel_rfl))
  f266 := Tryz.func138.trans (congrArg some (by kernel_rfl))
  f267 := Tryz.func137.trans (congrArg some (by kernel_rfl))
  f314 := Tryz.func139.trans (congrArg some (by kernel_rfl))
  t3 := Tryz.underlying3
  a3 := Tryz.isAgg3
  z3 := Tryz.sizeOf3
  v3 := Tryz.zeroValue3
  t4 := Tryz.underlying4
  a4 := Tryz.isAgg4
  z4 := Tryz.sizeOf4
  v4 := Tryz.zeroValue4
  t5 := Tryz.underlying5
  a5 := Tryz.isAgg5
  z5 := Tryz.sizeOf5
  v5 := Tryz.zeroValue5
  t9 := Tryz.underlying9
  a9 := Tryz.isAgg9
  z9 := Tryz.sizeOf9
  v9 := Tryz.zeroValue9
  t46 := Tryz.underlying232
  a46 := Tryz.isAgg232
  z46 := Tryz.sizeOf232
  v46 := Tryz.zeroValue232
  t51 := Tryz.underlying81
  a51 := Tryz.isAgg81
  z51 := Tryz.sizeOf81
  v51 := Tryz.zeroValue81
  t146 := Tryz.underlying261
  a146 := Tryz.isAgg261
  z146 := Tryz.sizeOf261
  v146 := Tryz.zeroValue261
  g1 := by kernel_rfl }
open Go.RowKit Go.Lib in
theorem Tryz.strings_Contains (s sub : ByteArray) (m : Int) (w : World) (hs : s.size < 4294967281) (hm : w.cell? ⟨3, 0, none⟩ = some (.int .i64 m)) :
    Calls Tryz.prog 128 #[.string s, .string sub] w fun e w' => e = .returned (.bool (Lib.contains s.data.toList sub.data.toList)) ∧ w' = w := Any.strings_Contains Tryz.lays144 s sub m w hs hm
def Tryz.lays145_ren : Go.Shelf.Ren := ⟨fun | 145 => 126 | 220 => 130 | 219 => 133 | 217 => 134 | 225 => 135 | 224 => 136 | 267 => 137 | 266 => 138 | 314 => 139 | n => n, fun | 9 => 9 | 4 => 4 | 59 => 256 | 3 => 3 | 5 => 5 | 46 => 232 | 146 => 261 | 51 => 81 | n => n, fun | 1 => 3 | n => n⟩
theorem Tryz.lays145 : Go.Proofs.Lays.n145 Tryz.prog Tryz.lays145_ren := {
  mixed := by kernel_rfl
  f145 := Tryz.func126.trans (congrArg some (by kernel_rfl))
  f217 := Tryz.func134.trans (congrArg some (by kernel_rfl))
  f219 := Tryz.func133.trans (congrArg some (by kernel_rfl))
  f220 := Tryz.func130.trans (congrArg some (by kernel_rfl))
  f224 := Tryz.func136.trans (congrArg some (by kernel_rfl))
  f225 := Tryz.func135.trans (congrArg some (by kernel_rfl))
  f266 := Tryz.func138.trans (congrArg some (by kernel_rfl))
  f267 := Tryz.func137.trans (congrArg some (by kernel_rfl))
  f314 := Tryz.func139.trans (congrArg some (by kernel_rfl))
  t3 := Tryz.underlying3
  a3 := Tryz.isAgg3
  z3 := Tryz.sizeOf3
  v3 := Tryz.zeroValue3
  t4 := Tryz.underlying4
  a4 := Tryz.isAgg4
  z4 := Tryz.sizeOf4
  v4 := Tryz.zeroValue4
  t5 := Tryz.underlying5
  a5 := Tryz.isAgg5
  z5 := Tryz.sizeOf5
  v5 := Tryz.zeroValue5
  t9 := Tryz.underlying9
  a9 := Tryz.isAgg9
  z9 := Tryz.sizeOf9
  v9 := Tryz.zeroValue9
  t46 := Tryz.underlying232
  a46 := Tryz.isAgg232
  z46 := Tryz.sizeOf232
  v46 := Tryz.zeroValue232
  t51 := Tryz.underlying81
  a51 := Tryz.isAgg81
  z51 := Tryz.sizeOf81
  v51 := Tryz.zeroValue81
  t59 := Tryz.underlying256
  a59 := Tryz.isAgg256
  z59 := Tryz.sizeOf256
  v59 := Tryz.zeroValue256
  t146 := Tryz.underlying261
  a146 := Tryz.isAgg261
  z146 := Tryz.sizeOf261
  v146 := Tryz.zeroValue261
  g1 := by kernel_rfl }
open Go.RowKit Go.Lib in
theorem Tryz.strings_Cut (s sep : ByteArray) (m : Int) (w : World) (hs : s.size < 4294967281) (hm : w.cell? ⟨3, 0, none⟩ = some (.int .i64 m)) :
    Calls Tryz.prog 126 #[.string s, .string sep] w fun e w' => e = .returned (.tuple #[.string ⟨(Lib.cut s.data.toList sep.data.toList).1.toArray⟩, .string ⟨(Lib.cut s.data.toList sep.data.toList).2.1.toArray⟩, .bool (Lib.cut s.data.toList sep.data.toList).2.2]) ∧ ∃ n, w' = w.drewN n := Any.strings_Cut Tryz.lays145 s sep m w hs hm
end Go.Proofs
end
section
namespace Go.Proofs.YthgkeehpoilgaaaGreatDoor.Hw
open Go.RowKit
theorem lays166 : Lays.n166 Tryz.prog Tryz.lays156_ren :=
  let L := Tryz.lays156
  { mixed := L.mixed, f166 := L.f166, f240 := L.f240, f276 := L.f276, t0 := L.t0, a0 := L.a0, z0 := L.z0, v0 := L.v0, t3 := L.t3, a3 := L.a3, z3 := L.z3, v3 := L.v3, t4 := L.t4, a4 := L.a4, z4 := L.z4, v4 := L.v4, t9 := L.t9, a9 := L.a9, z9 := L.z9, v9 := L.v9, t20 := L.t20, a20 := L.a20, z20 := L.z20, v20 := L.v20, t37 := L.t37, a37 := L.a37, z37 := L.z37, v37 := L.v37, t70 := L.t70, a70 := L.a70, z70 := L.z70, v70 := L.v70, t72 := L.t72, a72 := L.a72, z72 := L.z72, v72 := L.v72, t75 := L.t75, a75 := L.a75, z75 := L.z75, v75 := L.v75, t164 := L.t164, a164 := L.a164, z164 := L.z164, v164 := L.v164 }
end Go.Proofs.YthgkeehpoilgaaaGreatDoor.Hw
end
section
namespace Go.Proofs.YthgkeehpoilgaaaGreatDoor.Hw
open Go.RowKit Go.Proofs.YthgkeehpoilgaaaGreatDoorW.PrintWords Go.Proofs.YthgkeehpoilgaaaGreatDoorW.PrintLast Go.Proofs.YthgkeehpoilgaaaGreatDoorW.PrintMore
attribute [local go_sem] max2_int min2_int max_two min_two max_three min_three max_four min_four
set_option linter.unusedVariables false
set_option linter.unusedSimpArgs false
theorem strCells_add (a s : ByteArray) : Lib.strCells (a ++ s) = Lib.strCells a ++ Lib.strCells s := by
  unfold Lib.strCells
  rw [ByteArray.data_append, Array.toList_append, List.map_append]
theorem bldF_below {T e : TypeId} {B b : Nat} {bs : List Value} {W W' : World} (h : Lib.IsBuilderF T e B b bs W) (hb : Below W.heap.size W W') : Lib.IsBuilderF T e B b bs W' := by
  have one : ∀ p, Lib.BuilderAtF T e B b p bs W → Lib.BuilderAtF T e B b p bs W' := by
    intro p hp
    have hlt := hp.lt
    obtain ⟨hB, v, hv, hown, hne⟩ := hp
    exact ⟨hB, v, (hb.block b hlt).trans hv, hown.kept (row := none) ⟨hb.os, hb.tape, hb.output, hb.size, fun k hk _ => hb.block k hk⟩ (Classical.em _), hne⟩
  exact h.elim (fun x => .inl (one _ x)) (fun x => .inr (one _ x))
theorem bldF_lt {T e : TypeId} {B b : Nat} {bs : List Value} {W : World} (h : Lib.IsBuilderF T e B b bs W) : b < W.heap.size := h.elim (fun x => x.lt) (fun x => x.lt)
theorem below_lower {B B' : Nat} {w w' : World} (h : Below B w w') (hB : B' ≤ B) : Below B' w w' := ⟨h.os, h.tape, h.output, h.size, fun i hi => h.block i (Nat.lt_of_lt_of_le hi hB)⟩
theorem keep_box {T e t : TypeId} {B b g : Nat} {bs : List Value} {cs : Array Value} {w w1 : World} (hB : Lib.IsBuilderF T e B b bs w) (hk : Lib.OthersKept e (some b) w w1)
    (h : w.heap[g]? = some (.cells cs t (0, 0))) (ht : t ≠ T) (hte : t ≠ e) : w1.heap[g]? = some (.cells cs t (0, 0)) := by
  refine hk g _ h ?_ ?_
  · intro hgb
    obtain rfl := Option.some.inj hgb
    rcases hB with ⟨_, v, hv, _⟩ | ⟨_, v, hv, _⟩ <;>
    · rw [h] at hv
      injection hv with hv
      injection hv with _ hv _
      exact ht hv
  · intro c fz hc
    injection hc with _ hc _
    exact hte hc
theorem bld_write (b : Nat) (acc s : ByteArray) (w : World) (h : Lib.IsBuilderF 113 5 b b (Lib.strCells acc) w) (hlen : acc.size + s.size ≤ 140737488355328) :
    Calls Tryz.prog 42 #[.pointer (some ⟨b, 0, none⟩), .string s] w fun e w' => e = .returned (.tuple #[.int .i64 s.size, .nilIface]) ∧
      Lib.IsBuilderF 113 5 b b (Lib.strCells (acc ++ s)) w' ∧ Below b w w' ∧ Lib.OthersKept 5 (some b) w w' := by
  refine (Any.Builder_WriteString_k lays166 Tryz.Builder_Extra_156 b b (Lib.strCells acc) s w h (by rw [Lib.strCells_length]; exact hlen) (Nat.le_of_lt (bldF_lt h))).mono ?_
  rintro e w' ⟨he, hb, hbl, hk⟩
  exact ⟨he, .inr (by rw [strCells_add]; exact hb), hbl, hk⟩
theorem bld_len (b : Nat) (acc : ByteArray) (w : World) (h : Lib.IsBuilderF 113 5 b b (Lib.strCells acc) w) :
    Calls Tryz.prog 45 #[.pointer (some ⟨b, 0, none⟩)] w fun e w' => e = .returned (.int .i64 acc.size) ∧ w' = w := by
  refine (Any.Builder_Len_f Tryz.lays170 b b (Lib.strCells acc) w h).mono ?_
  rintro e w' ⟨he, hw⟩
  exact ⟨by rw [he, Lib.strCells_length], hw⟩
theorem bld_string (b : Nat) (acc : ByteArray) (w : World) (h : Lib.IsBuilderF 113 5 b b (Lib.strCells acc) w) :
    Calls Tryz.prog 46 #[.pointer (some ⟨b, 0, none⟩)] w fun e w' => e = .returned (.string acc) ∧ Below b w w' := by
  refine (Any.Builder_String_any_f Tryz.lays169 Tryz.Builder_Extra_169 b b acc.data.toList w (by rw [← Lib.strCells_eq]; exact h) (Nat.le_of_lt (bldF_lt h))).mono ?_
  rintro e w' ⟨he, _, hbl⟩
  exact ⟨by rw [he], hbl⟩
def awayB (x n : Int) : Bool := decide (x < 0) || decide (n ≤ x)
def awayIdx : List Int → Int → Int → Int
  | [], _, _ => -1
  | x :: r, n, i => if awayB x n = true then i else awayIdx r n (i + 1)
theorem awayIdx_iff : ∀ (l : List Int) (n i : Int), 0 ≤ i → decide (0 ≤ awayIdx l n i) = l.any fun x => awayB x n
  | [], n, i, h => by simp [awayIdx]
  | x :: r, n, i, h => by
    unfold awayIdx
    by_cases hx : awayB x n = true
    · simp [hx, h]
    · rw [if_neg hx, awayIdx_iff r n (i + 1) (by omega)]
      simp [hx]
theorem awayIdx_step (l : List Int) (n : Int) (k : Nat) (h : k < l.length) : awayIdx (l.drop k) n (k : Int) = if awayB (l.getD k 0) n = true then (k : Int) else awayIdx (l.drop (k + 1)) n ((k + 1 : Nat) : Int) := by
  rw [List.drop_eq_getElem_cons h, List.getD_eq_getElem?_getD, List.getElem?_eq_getElem h]
  rfl
theorem away_cell {w : World} {A : Option Addr} {l : List Int} (h : Kd.C (Kd.int .i64) w A l.length l) (k : Nat) (hk : k < l.length) : ∃ ad x, A = some ad ∧ x = l.getD k 0 ∧ w.cell? (ad.add k) = some (.int .i64 x) := by
  obtain ⟨ad, e, hc⟩ := h.2.2 (by omega)
  obtain ⟨c, hl, hp, hu⟩ := hc k _ (List.getElem?_eq_getElem hk)
  have hp : c = [.int .i64 l[k]] := hp
  subst hp
  have e1 : (Kd.int .i64).sz = 1 := rfl
  refine ⟨ad, _, e, rfl, ?_⟩
  have := hu 0 _ rfl
  rw [e1, Nat.mul_one, Nat.add_zero] at this
  rw [this, List.getD_eq_getElem?_getD, List.getElem?_eq_getElem hk]
  rfl
theorem away_May (x : Int) (n : Int) (B : Nat) (w : World) (hc : w.cell? ⟨B, 1, none⟩ = some (.int .i64 n)) :
    Calls Tryz.prog 104 #[.int .i64 x, .pointer (some ⟨B, 0, none⟩)] w fun e w' => e = .returned (.bool (awayB x n)) ∧ w = w' := by
  by_cases h0 : x < 0
  · have hb : awayB x n = true := by simp [awayB, h0]
    rw [hb]
    go_enter Tryz.func104, Tryz.ntmps104
    go_wp2
    go_ret
    exact ⟨rfl, rfl⟩
  · by_cases h1 : n ≤ x
    · have hb : awayB x n = true := by simp [awayB, h1]
      rw [hb]
      go_enter Tryz.func104, Tryz.ntmps104
      go_wp2
      go_ret
      exact ⟨rfl, rfl⟩
    · have hb : awayB x n = false := by simp [awayB, h0, h1]
      rw [hb]
      go_enter Tryz.func104, Tryz.ntmps104
      go_wp2
      go_ret
      exact ⟨rfl, rfl⟩
set_option maxHeartbeats 1000000 in
set_option maxRecDepth 100000 in
theorem awayIdx_May (src : List Int) (A : Option Addr) (c : Nat) (n : Int) (B : Nat) (w : World) (hr : Kd.C (Kd.int .i64) w A src.length src) (hc : w.cell? ⟨B, 1, none⟩ = some (.int .i64 n)) :
    Calls Tryz.prog 106 #[.slice A src.length c, .func (.func 104) #[] #[.pointer (some ⟨B, 0, none⟩)]] w fun e w' => e = .returned (.int .i64 (awayIdx src n 0)) ∧ w = w' := by
  have hm := hr.2.1
  have Hr := Lib.hid hr
  clear hr
  go_enter Tryz.func106, Tryz.ntmps106
  go_wp2
  go_loop [8, 5] (fun i _ => ∃ k : Nat, k ≤ src.length ∧ i = .int .i64 k ∧ awayIdx (src.drop k) n (k : Int) = awayIdx src n 0) (fun i _ => src.length - (intOf i).toNat)
  case atStart => exact ⟨0, Nat.zero_le _, rfl, rfl⟩
  case round =>
    obtain ⟨k, hk, rfl, he⟩ := hrel
    have He := Lib.hid he
    clear he
    by_cases hlt : k < src.length
    · obtain ⟨ad, x, rfl, hx, hcell⟩ := away_cell Hr.out k hlt
      have hcl := away_May x n B w hc
      have Hcl := Lib.hid hcl
      clear hcl
      have hstep := awayIdx_step src n k hlt
      rw [← hx] at hstep
      have Hst := Lib.hid hstep
      clear hstep hx
      by_cases ha : awayB x n = true
      · have Ha := Lib.hid ha
        clear ha
        go_wp2_with (go_at_call 104; refine (Hcl.out).mono ?_; rintro e w' ⟨rfl, rfl⟩; rw [Ha.out])
        go_ret
        exact ⟨by rw [← He.out, Hst.out, if_pos Ha.out]; rfl, rfl⟩
      · rw [Bool.not_eq_true] at ha
        have Ha := Lib.hid ha
        clear ha
        go_wp2_with (go_at_call 104; refine (Hcl.out).mono ?_; rintro e w' ⟨rfl, rfl⟩; rw [Ha.out])
        go_round
        case rel => exact ⟨k + 1, by omega, by go_num, by rw [← He.out, Hst.out, if_neg (by rw [Ha.out]; decide)]⟩
        case measure => simp [intOf]; omega
    · have hek : k = src.length := by omega
      go_wp2
      go_ret
      refine ⟨?_, rfl⟩
      rw [← He.out, List.drop_eq_nil_of_le (by omega)]
      rfl
theorem awayAny_May (src : List Int) (A : Option Addr) (c : Nat) (n : Int) (B : Nat) (w : World) (hr : Kd.C (Kd.int .i64) w A src.length src) (hc : w.cell? ⟨B, 1, none⟩ = some (.int .i64 n)) :
    Calls Tryz.prog 89 #[.slice A src.length c, .func (.func 104) #[] #[.pointer (some ⟨B, 0, none⟩)]] w fun e w' => e = .returned (.bool (src.any fun x => awayB x n)) ∧ w = w' := by
  have hi := awayIdx_iff src n 0 (by omega)
  have hcl := awayIdx_May src A c n B w hr hc
  clear hr hc
  rw [← hi]
  clear hi
  have Hcl := Lib.hid hcl
  clear hcl
  go_enter Tryz.func89, Tryz.ntmps89
  go_wp2_with (go_at_call 106; refine (Hcl.out).mono ?_; rintro e w' ⟨rfl, rfl⟩)
  go_ret
  exact ⟨rfl, rfl⟩
def stringslite_HasSuffix.f (a0 : ByteArray) (a1 : ByteArray) : Option (Bool) := if (a0.size : Int) ≥ (a1.size : Int) then (if 0 ≤ (wrap64 ((a0.size : Int) - (a1.size : Int))) then (if (wrap64 ((a0.size : Int) - (a1.size : Int))) ≤ (a0.size : Int) then (some ((a0.extract ((wrap64 ((a0.size : Int) - (a1.size : Int))) : Int).toNat a0.size).toList == a1.toList)) else (none)) else (none)) else (some false)
set_option maxHeartbeats 8000000 in
set_option maxRecDepth 100000 in
theorem stringslite_HasSuffix.calls (a0 : ByteArray) (a1 : ByteArray) (r : Bool) (w : World) (hG : GG [] w) (h : stringslite_HasSuffix.f a0 a1 = some r) :
  Calls Tryz.prog 131 #[.string a0, .string a1] w fun e w' => e = .returned (.bool r) ∧ Drawn0 w w' := by
 have HG := Aside0.mk hG
 clear hG
 have H : (if (a0.size : Int) ≥ (a1.size : Int) then (if 0 ≤ (wrap64 ((a0.size : Int) - (a1.size : Int))) then (if (wrap64 ((a0.size : Int) - (a1.size : Int))) ≤ (a0.size : Int) then (some ((a0.extract ((wrap64 ((a0.size : Int) - (a1.size : Int))) : Int).toNat a0.size).toList == a1.toList)) else (none)) else (none)) else (some false)) = some r := h
 clear h
 by_cases c3 : (a0.size : Int) ≥ (a1.size : Int)
 ·rw [if_pos c3] at H
  have c3b0 : decide ((a1.size : Int) ≤ (a0.size : Int)) = true := decide_eq_true c3
  have c3b1 : decide (a1.size ≤ a0.size) = true := decide_eq_true (Int.ofNat_le.mp c3)
  clear c3
  obtain ⟨ji4, hji4⟩ : ∃ j_ : Int, (wrap64 ((a0.size : Int) - (a1.size : Int))) = j_ := ⟨_, rfl⟩
  replace H : (if 0 ≤ (ji4) then (if (ji4) ≤ (a0.size : Int) then (some ((a0.extract ((ji4) : Int).toNat a0.size).toList == a1.toList)) else (none)) else (none)) = some r := by first | (rw [hji4] at H; exact H) | (simp only [hji4] at H ⊢; exact H)
  have hji4w : (IntKind.i64.wrap ((a0.size : Int) - (a1.size : Int))) = ji4 := (i64_w _).trans hji4
  by_cases c5 : 0 ≤ (ji4)
  ·rw [if_pos c5] at H
   have c5b0 := eq_true c5
   have c5b1 : decide (0 ≤ (ji4)) = true := decide_eq_true c5
   clear c5
   by_cases c6 : (ji4) ≤ (a0.size : Int)
   ·rw [if_pos c6] at H
    have c6b0 := eq_true c6
    have c6b1 : decide ((ji4) ≤ (a0.size : Int)) = true := decide_eq_true c6
    clear c6
    obtain rfl := Option.some.inj H
    go_enter Tryz.func131, Tryz.ntmps131
    go_wp2
    go_ret
    exact ⟨by first | rfl | (simp; done) | (simp only [← hji4] <;> (first | rfl | simp)) | (simp [*]; done), Q29⟩
   rw [if_neg c6] at H
   exact absurd H Q8
  rw [if_neg c5] at H
  exact absurd H Q8
 rw [if_neg c3] at H
 have c3b0 : decide ((a1.size : Int) ≤ (a0.size : Int)) = false := decide_eq_false c3
 have c3b1 : decide (a1.size ≤ a0.size) = false := decide_eq_false (fun h => c3 (Int.ofNat_le.mpr h))
 clear c3
 obtain rfl := Option.some.inj H
 go_enter Tryz.func131, Tryz.ntmps131
 go_wp2
 go_ret
 exact ⟨Q3, Q29⟩
def strings_HasSuffix.f (a0 : ByteArray) (a1 : ByteArray) : Option (Bool) := (stringslite_HasSuffix.f a0 a1).bind fun t250 => (some t250)
set_option maxHeartbeats 8000000 in
set_option maxRecDepth 100000 in
theorem strings_HasSuffix.calls (a0 : ByteArray) (a1 : ByteArray) (r : Bool) (w : World) (hG : GG [] w) (h : strings_HasSuffix.f a0 a1 = some r) :
  Calls Tryz.prog 127 #[.string a0, .string a1] w fun e w' => e = .returned (.bool r) ∧ Drawn0 w w' := by
 have HG := Aside0.mk hG
 clear hG
 have H : ((stringslite_HasSuffix.f a0 a1).bind fun t250 => (some t250)) = some r := h
 clear h
 replace H := Option.bind_eq_some_iff.mp H
 obtain ⟨t250, A30, H⟩ := H
 replace H : (some t250) = some r := H
 have A3 := Aside0.mk A30
 clear A30
 obtain rfl := Option.some.inj H
 go_enter Tryz.func127, Tryz.ntmps127
 go_wp2_with (first | ((with_reducible refine gate_callee (f := 131) rfl ?_); refine goesL_ (some 7) rfl rfl Tryz.func131 Q0 rfl #[.string a0, .string a1] rfl Q9 ?_; (with_reducible refine (stringslite_HasSuffix.calls a0 a1 t250 _ ?side1 A3.out).mono ?_); (case side1 => exact GG.nil _); rintro e w' ⟨rfl, ⟨nd, rfl⟩⟩; refine ⟨_, rfl, ?_⟩))
 go_ret
 exact ⟨Q3, Q29⟩
def strings_Cut.f (a0 a1 : ByteArray) : Option (ByteArray × ByteArray × Bool) :=
  if a0.size < 4294967281 then some (⟨(Lib.cut a0.data.toList a1.data.toList).1.toArray⟩, ⟨(Lib.cut a0.data.toList a1.data.toList).2.1.toArray⟩, (Lib.cut a0.data.toList a1.data.toList).2.2) else none
theorem strings_Cut.calls (a0 a1 r1 r2 : ByteArray) (r3 : Bool) (w : World) (hG : GG [0] w) (h : strings_Cut.f a0 a1 = some (r1, r2, r3)) :
    Calls Tryz.prog 126 #[.string a0, .string a1] w fun e w' => e = .returned (.tuple #[.string r1, .string r2, .bool r3]) ∧ Drawn0 w w' := by
  obtain ⟨m, hm⟩ := hG 0 (by simp)
  unfold strings_Cut.f at h
  split at h
  case isFalse => cases h
  rename_i hs
  simp only [Option.some.injEq, Prod.mk.injEq] at h
  obtain ⟨rfl, rfl, rfl⟩ := h
  exact (Tryz.strings_Cut a0 a1 m w hs hm).mono fun e w' h => ⟨h.1, ⟨h.2⟩⟩
def strings_Contains.f (a0 a1 : ByteArray) : Option Bool := if a0.size < 4294967281 then some (Lib.contains a0.data.toList a1.data.toList) else none
theorem strings_Contains.calls (a0 a1 : ByteArray) (r : Bool) (w : World) (hG : GG [0] w) (h : strings_Contains.f a0 a1 = some r) :
    Calls Tryz.prog 128 #[.string a0, .string a1] w fun e w' => e = .returned (.bool r) ∧ Drawn0 w w' := by
  obtain ⟨m, hm⟩ := hG 0 (by simp)
  unfold strings_Contains.f at h
  split at h
  case isFalse => cases h
  rename_i hs
  have h := Option.some.inj h
  subst h
  exact (Tryz.strings_Contains a0 a1 m w hs hm).mono fun e w' h => ⟨h.1, by rw [h.2]; exact Drawn0.refl _⟩
end Go.Proofs.YthgkeehpoilgaaaGreatDoor.Hw
end

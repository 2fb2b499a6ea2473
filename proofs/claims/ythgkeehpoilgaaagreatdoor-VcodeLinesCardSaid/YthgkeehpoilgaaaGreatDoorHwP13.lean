import Derived.Test.YthgkeehpoilgaaaGreatDoorProg
import Derived.WalkKit
import Derived.LaidEql
import Derived.Stop.Asserts
import Derived.RowKitTokens
import Derived.Outline
import Derived.Test.YthgkeehpoilgaaaGreatDoorHwP2
section
namespace Go.Proofs.YthgkeehpoilgaaaGreatDoor.Hw
open Go.RowKit Go.Proofs.YthgkeehpoilgaaaGreatDoorW.PrintWords Go.Proofs.YthgkeehpoilgaaaGreatDoorW.PrintLast Go.Proofs.YthgkeehpoilgaaaGreatDoorW.PrintMore
attribute [local go_sem] max2_int min2_int max_two min_two max_three min_three max_four min_four
set_option linter.unusedVariables false
set_option linter.unusedSimpArgs false
theorem hyV_blk {α : Type} {d : Kd α} {e base g n c : Nat} {ok : Nat → Prop} {w : World} {ad : Addr} {xs : List α} (h : Kd.V d e w base ok (.slice (some ad) n c) xs) (hsz : 0 < d.sz) (hp : 0 < xs.length) (hok : ∀ k, ok k → k ≠ g) : ad.block ≠ g := by
 obtain ⟨A, c', hv, _, hF⟩ := h
 injection hv with h1 h2 h3
 subst h1
 obtain ⟨ad', cc, he, _, _, _, hin⟩ := Kd.F_get hF (xs[0]'hp) 0 Q20 Q20
 injection he with he
 subst he
 exact hok _ (hin hsz)
mutual
def mandrellaw11_giveCode.l0 : Nat → Int → Int → Int → Bool → List (S80) → Int → Int → Bool → List (S87) → Option (Int × Int × Bool × (List (S87)))
 | 0, _, _, _, _, _, _, _, _, _ => none
 | k + 1, x4, x378000, x378001, x378002, x378003, x380000, x380001, x380002, x380003 => if x4 < (x378003.length : Int) then (if 0 ≤ x4 then (mandrellaw11_giveCode.l1 k x4 0 x378000 x378001 x378002 x378003 x380000 x380001 x380002 x380003 ([] : List (S84)) ((rd_T80 x378003 x4).f1) ((rd_T80 x378003 x4).f2)) else (none)) else (some (x380000, x380001, x380002, x380003))
def mandrellaw11_giveCode.l1 : Nat → Int → Int → Int → Int → Bool → List (S80) → Int → Int → Bool → List (S87) → List (S84) → List Int → Int → Option (Int × Int × Bool × (List (S87)))
 | 0, _, _, _, _, _, _, _, _, _, _, _, _, _ => none
 | k + 1, x4, x6, x378000, x378001, x378002, x378003, x380000, x380001, x380002, x380003, x383000, x383001, x383002 => if 0 ≤ x4 then (if x4 < (x378003.length : Int) then (if x6 < (((rd_T80 x378003 x4).f0).length : Int) then (if 0 ≤ x6 then (if x383000.length < 2513169434916 then (mandrellaw11_giveCode.l1 k x4 (wrap64 (x6 + 1)) x378000 x378001 x378002 x378003 x380000 x380001 x380002 x380003 (x383000 ++ [(⟨(rd_T83 ((rd_T80 x378003 x4).f0) x6).f0, (rd_T83 ((rd_T80 x378003 x4).f0) x6).f1, (rd_T83 ((rd_T80 x378003 x4).f0) x6).f2, (rd_T83 ((rd_T80 x378003 x4).f0) x6).f3, (rd_T83 ((rd_T80 x378003 x4).f0) x6).f4⟩ : S84)]) x383001 x383002) else (none)) else (none)) else (if x380003.length < 2513169434916 then (mandrellaw11_giveCode.l0 k (wrap64 (x4 + 1)) x378000 x378001 x378002 x378003 x380000 x380001 x380002 (x380003 ++ [(⟨x383000, x383001, x383002⟩ : S87)])) else (none))) else (none)) else (none)
end
def mandrellaw11_giveCode.f (k : Nat) (a0_0 : Int) (a0_1 : Int) (a0_2 : Bool) (l0_3 : List (S80)) : Option (Int × Int × Bool × (List (S87))) := mandrellaw11_giveCode.l0 k 0 a0_0 a0_1 a0_2 l0_3 a0_0 a0_1 a0_2 ([] : List (S87))
def mandrellaw11_giveCode.T5 : Bool × List (List Nat × List Nat) := (true, [([], []), ([0], [0]), ([], []), ([1, 2], [1, 2]), ([3], [3]), ([4], [4]), ([], []), ([6], [6]), ([], []), ([7, 8], [7, 8]), ([9], [9]), ([10], [10]), ([5, 11], [5, 11]), ([], []), ([13, 12, 0, 1, 2, 3, 4, 5, 6, 7, 8, 9, 10, 11, 12, 13], [12, 13])])
def mandrellaw11_giveCode.B5 : List Nat := [0, 1, 0, 7, 15, 31, 0, 64, 0, 448, 960, 1984, 4095, 0, 16383]
theorem mandrellaw11_giveCode.tab5 : rtab .any (opsOf Tryz.f19 5) = mandrellaw11_giveCode.T5 := Q0
theorem mandrellaw11_giveCode.bits5 : waitsOk mandrellaw11_giveCode.T5.2 mandrellaw11_giveCode.B5 = true := Q0
def mandrellaw11_giveCode.T9 : Bool × List (List Nat × List Nat) := (true, [([], []), ([0], [0]), ([], []), ([2], [2]), ([], []), ([3, 4], [3, 4]), ([5], [5]), ([6], [6]), ([], []), ([7, 8], [7, 8]), ([9], [9]), ([10], [10]), ([1, 11], [1, 11]), ([0, 1, 2, 3, 4, 5, 6, 7, 8, 9, 10, 11, 12], []), ([13, 12, 12, 0, 1, 2, 3, 4, 5, 6, 7, 8, 9, 10, 11, 12], [12, 13])])
def mandrellaw11_giveCode.B9 : List Nat := [0, 1, 0, 4, 0, 28, 60, 124, 0, 508, 1020, 2044, 4095, 8191, 16383]
theorem mandrellaw11_giveCode.tab9 : rtab .any (opsOf Tryz.f19 9) = mandrellaw11_giveCode.T9 := Q0
theorem mandrellaw11_giveCode.bits9 : waitsOk mandrellaw11_giveCode.T9.2 mandrellaw11_giveCode.B9 = true := Q0
set_option maxHeartbeats 8000000 in
set_option maxRecDepth 100000 in
theorem mandrellaw11_giveCode.calls (k : Nat) (a0_0 : Int) (a0_1 : Int) (a0_2 : Bool) (P0_3_ : Nat → Prop) (A0_3 : Option Addr) (c0_3 : Nat) (l0_3 : List (S80)) (r1 : Int) (r2 : Int) (r3 : Bool) (r4 : List (S87)) (w : World) (hs0_3 : Kd.V k80 80 w w.heap.size (fun k_ => P0_3_ k_) (.slice A0_3 l0_3.length c0_3) l0_3) (hG : GG [] w) (h : mandrellaw11_giveCode.f k a0_0 a0_1 a0_2 l0_3 = some (r1, r2, r3, r4)) :
  Calls Tryz.prog 19 #[.agg #[.int .i64 a0_0, .int .i64 a0_1, .bool a0_2, .slice A0_3 l0_3.length c0_3]] w fun e w' => ∃ v3_ : Value, e = .returned (.agg #[.int .i64 r1, .int .i64 r2, .bool r3, v3_]) ∧ Kd.N k87 87 w' w.heap.size (fun k_ => (P0_3_ k_ ∨ w.heap.size ≤ k_)) v3_ r4 ∧ Below w.heap.size w w' := by
 have hu24 := Tryz.underlying24
 have hu35 := Tryz.underlying35
 have hu87 := Tryz.underlying87
 have hu83 := Tryz.underlying83
 have HO0_3 := Aside0.mk (show Kd.V k80 80 w w.heap.size (fun k_ => (P0_3_ k_ ∨ w.heap.size ≤ k_)) (.slice A0_3 l0_3.length c0_3) l0_3 from Kd.V_mono hs0_3 (fun k_ hk => .inl hk))
 have HB := Aside0.mk (Below.refl w.heap.size w)
 have HG := Aside0.mk hG
 clear hG
 have H : (mandrellaw11_giveCode.l0 k 0 a0_0 a0_1 a0_2 l0_3 a0_0 a0_1 a0_2 ([] : List (S87))) = some (r1, r2, r3, r4) := h
 clear h
 have H' := Aside0.mk H
 clear H
 go_enter Tryz.func19, Tryz.ntmps19
 go_wp2_with (first | ((with_reducible refine gate_dst (N := 1) rfl ?_); refine box_event ?hg (N := 1) ?hd (cs := #[.int .i64 a0_0, .int .i64 a0_1, .bool a0_2, .slice A0_3 l0_3.length c0_3]) (t := 24) ?hr ?_; (case hd => rfl); (case hg => rfl); (case hr => first | (go_simp; done) | (go_simp; rfl)); intro gb377 hg w2 hbox hb; have n0_ := Aside0.mk (Kd.V_below (Kd.V_elderB Q87 gb377 (Nat.le_of_eq hg.symm)) hb); have n1_ := Aside0.mk (below_step Q1 hb); have n2_ := Aside0.mk (hbox); have n3_ := Aside0.mk ((Q155 : w.heap.size ≤ gb377)); have n4_ := Aside0.mk ((Q155 : w.heap.size ≤ gb377)); clear HO0_3; clear HB; have HO0_3 := n0_; have HB := n1_; have BK377 := n2_; have GW377 := n3_; have GE377 := n4_; clear n0_ n1_ n2_ n3_ n4_; clear hb hbox hg) | ((with_reducible refine gate_dst (N := 2) rfl ?_); refine box_event ?hg (N := 2) ?hd (cs := #[.int .i64 0, .int .i64 0, .bool false, .slice none 0 0]) (t := 35) ?hr ?_; (case hd => rfl); (case hg => rfl); (case hr => first | (go_simp; done) | (go_simp; rfl)); intro gb378 hg w3 hbox hb; have n0_ := Aside0.mk (Kd.V_below (Kd.V_elderB Q87 gb378 (Nat.le_of_eq hg.symm)) hb); have n1_ := Aside0.mk (blk_below (g := gb377) (o := .cells #[.int .i64 a0_0, .int .i64 a0_1, .bool a0_2, .slice A0_3 l0_3.length c0_3] 24 (0, 0)) Q39 hb); have n2_ := Aside0.mk (below_step Q88 hb); have n3_ := Aside0.mk (hbox); have n4_ := Aside0.mk ((by rw [hg]; exact (below_size Q88) : w.heap.size ≤ gb378)); have n5_ := Aside0.mk ((by rw [hg]; exact (below_size Q88) : w.heap.size ≤ gb378)); have n6_ := Aside0.mk ((Q177 : gb377 ≠ gb378)); have n7_ := Aside0.mk ((Q178 : gb378 ≠ gb377)); clear HO0_3; clear BK377; clear HB; have HO0_3 := n0_; have BK377 := n1_; have HB := n2_; have BK378 := n3_; have GW378 := n4_; have GE378 := n5_; have NB377_378 := n6_; have NB378_377 := n7_; clear n0_ n1_ n2_ n3_ n4_ n5_ n6_ n7_; clear hb hbox hg; have hnb4 := NB377_378.out; have hnc4 := NB378_377.out; have hcz5_0 : w3.cell? ⟨gb377, 0, none⟩ = some (.int .i64 a0_0) := (blk_cell BK377.out 0).trans rfl; have hcz5_1 : w3.cell? ⟨gb377, 1, none⟩ = some (.int .i64 a0_1) := (blk_cell BK377.out 1).trans rfl; have hcz5_2 : w3.cell? ⟨gb377, 2, none⟩ = some (.bool a0_2) := (blk_cell BK377.out 2).trans rfl; have hcz5_3 : w3.cell? ⟨gb377, 3, none⟩ = some (.slice A0_3 l0_3.length c0_3) := (blk_cell BK377.out 3).trans rfl; have hfz5_0 := blk_frozen BK377.out 0; have hfz5_1 := blk_frozen BK377.out 1; have hfz5_2 := blk_frozen BK377.out 2; have hfz5_3 := blk_frozen BK377.out 3) | ((with_reducible refine gate_dst (N := 3) rfl ?_); refine box_event ?hg (N := 3) ?hd (cs := #[.int .i64 0, .int .i64 0, .bool false, .slice none 0 0]) (t := 35) ?hr ?_; (case hd => rfl); (case hg => rfl); (case hr => first | (go_simp; done) | (go_simp; rfl)); intro gb379 hg w6 hbox hb; have n0_ := Aside0.mk (Kd.V_below (Kd.V_elderB Q87 gb379 (Nat.le_of_eq hg.symm)) hb); have n1_ := Aside0.mk (blk_below (g := gb377) (o := .cells #[.int .i64 a0_0, .int .i64 a0_1, .bool a0_2, .slice A0_3 l0_3.length c0_3] 24 (0, 0)) Q39 hb); have n2_ := Aside0.mk (blk_below (g := gb378) (o := .cells #[.int .i64 0, .int .i64 0, .bool false, .slice none 0 0] 35 (0, 0)) Q48 hb); have n3_ := Aside0.mk (below_step Q89 hb); have n4_ := Aside0.mk (hbox); have n5_ := Aside0.mk ((by rw [hg]; exact (below_size Q89) : w.heap.size ≤ gb379)); have n6_ := Aside0.mk ((by rw [hg]; exact (below_size Q89) : w.heap.size ≤ gb379)); have n7_ := Aside0.mk ((Q177 : gb377 ≠ gb379)); have n8_ := Aside0.mk ((Q178 : gb379 ≠ gb377)); have n9_ := Aside0.mk ((Q179 : gb378 ≠ gb379)); have n10_ := Aside0.mk ((Q180 : gb379 ≠ gb378)); clear HO0_3; clear BK377; clear BK378; clear HB; have HO0_3 := n0_; have BK377 := n1_; have BK378 := n2_; have HB := n3_; have BK379 := n4_; have GW379 := n5_; have GE379 := n6_; have NB377_379 := n7_; have NB379_377 := n8_; have NB378_379 := n9_; have NB379_378 := n10_; clear n0_ n1_ n2_ n3_ n4_ n5_ n6_ n7_ n8_ n9_ n10_; clear hb hbox hg; have hnb7 := NB379_377.out; have hnc7 := NB377_379.out; have hnb8 := NB379_378.out; have hnc8 := NB378_379.out; have hcz9_0 : w6.cell? ⟨gb379, 0, none⟩ = some (.int .i64 0) := (blk_cell BK379.out 0).trans rfl; have hcz9_1 : w6.cell? ⟨gb379, 1, none⟩ = some (.int .i64 0) := (blk_cell BK379.out 1).trans rfl; have hcz9_2 : w6.cell? ⟨gb379, 2, none⟩ = some (.bool false) := (blk_cell BK379.out 2).trans rfl; have hcz9_3 : w6.cell? ⟨gb379, 3, none⟩ = some (.slice none 0 0) := (blk_cell BK379.out 3).trans rfl; have hfz9_0 := blk_frozen BK379.out 0; have hfz9_1 := blk_frozen BK379.out 1; have hfz9_2 := blk_frozen BK379.out 2; have hfz9_3 := blk_frozen BK379.out 3))
 go_loopg [4] k (fun kq v4 w' => ∃ (x4_1 : Int) (x380003_1 : List (S87)) (u380003 : Value), v4 = .int .i64 x4_1 ∧ Aside0 (mandrellaw11_giveCode.l0 kq x4_1 a0_0 a0_1 a0_2 l0_3 a0_0 a0_1 a0_2 x380003_1 = some (r1, r2, r3, r4)) ∧ Aside0 (kq ≤ k) ∧ Aside0 (Kd.V k80 80 w' w.heap.size (fun k_ => (P0_3_ k_ ∨ w.heap.size ≤ k_) ∧ some k_ ≠ (u380003 : Value).ownBlock ∧ k_ ≠ gb377 ∧ k_ ≠ gb378 ∧ k_ ≠ gb379) (.slice A0_3 l0_3.length c0_3) l0_3) ∧ Aside0 (Kd.N k87 87 w' w.heap.size (fun k_ => (P0_3_ k_ ∨ w.heap.size ≤ k_) ∧ k_ ≠ gb377 ∧ k_ ≠ gb378 ∧ k_ ≠ gb379) u380003 x380003_1) ∧ Aside0 (w'.heap[gb377]? = some (.cells #[.int .i64 a0_0, .int .i64 a0_1, .bool a0_2, (.slice A0_3 l0_3.length c0_3)] 24 (0, 0))) ∧ Aside0 (w'.heap[gb378]? = some (.cells #[.int .i64 0, .int .i64 0, .bool false, (.slice none 0 0)] 35 (0, 0))) ∧ Aside0 (w'.heap[gb379]? = some (.cells #[.int .i64 a0_0, .int .i64 a0_1, .bool a0_2, u380003] 35 (0, 0))) ∧ Aside0 (Below w.heap.size w w'))
 case atStart => exact ⟨(0), (([] : List (S87))), (.slice none 0 0), Q3, H', ⟨Nat.le_refl _⟩, ⟨by (with_reducible repeat (first | apply Kd.V_alloc | apply Kd.V_drewN | apply Kd.V_drew)); exact Kd.V_mono (Kd.V_far (p := ⟨gb379, 3, none⟩) (Kd.V_far (p := ⟨gb379, 2, none⟩) (Kd.V_far (p := ⟨gb379, 1, none⟩) (Kd.V_far (p := ⟨gb379, 0, none⟩) (Kd.V_mono HO0_3.out (fun k_ hk => (⟨hk, hk.2⟩ : _ ∧ k_ ≠ gb379))) (fun _ hk => hk.2) (.int .i64 a0_0)) (fun _ hk => hk.2) (.int .i64 a0_1)) (fun _ hk => hk.2) (.bool a0_2)) (fun _ hk => hk.2) (.slice none 0 0)) (fun _ hk => ⟨hk.1.1.1.1, ⟨Q64, ⟨hk.1.1.1.2, ⟨hk.1.1.2, hk.1.2⟩⟩⟩⟩)⟩, ⟨Q54⟩, ⟨by (with_reducible repeat (first | refine blk_drewN ?_ _ | refine blk_drew ?_ | refine blk_alloc ?_ _)); refine blk_far ?_ NB377_379.out _; (with_reducible repeat (first | refine blk_drewN ?_ _ | refine blk_drew ?_ | refine blk_alloc ?_ _)); refine blk_far ?_ NB377_379.out _; (with_reducible repeat (first | refine blk_drewN ?_ _ | refine blk_drew ?_ | refine blk_alloc ?_ _)); refine blk_far ?_ NB377_379.out _; (with_reducible repeat (first | refine blk_drewN ?_ _ | refine blk_drew ?_ | refine blk_alloc ?_ _)); refine blk_far ?_ NB377_379.out _; (with_reducible repeat (first | refine blk_drewN ?_ _ | refine blk_drew ?_ | refine blk_alloc ?_ _)); exact BK377.out⟩, ⟨by (with_reducible repeat (first | refine blk_drewN ?_ _ | refine blk_drew ?_ | refine blk_alloc ?_ _)); refine blk_far ?_ NB378_379.out _; (with_reducible repeat (first | refine blk_drewN ?_ _ | refine blk_drew ?_ | refine blk_alloc ?_ _)); refine blk_far ?_ NB378_379.out _; (with_reducible repeat (first | refine blk_drewN ?_ _ | refine blk_drew ?_ | refine blk_alloc ?_ _)); refine blk_far ?_ NB378_379.out _; (with_reducible repeat (first | refine blk_drewN ?_ _ | refine blk_drew ?_ | refine blk_alloc ?_ _)); refine blk_far ?_ NB378_379.out _; (with_reducible repeat (first | refine blk_drewN ?_ _ | refine blk_drew ?_ | refine blk_alloc ?_ _)); exact BK378.out⟩, ⟨by (with_reducible repeat (first | refine blk_drewN ?_ _ | refine blk_drew ?_ | refine blk_alloc ?_ _)); refine blk_put (cs := #[.int .i64 a0_0, .int .i64 a0_1, .bool a0_2, .slice none 0 0]) ?_ 3 _ rfl; (with_reducible repeat (first | refine blk_drewN ?_ _ | refine blk_drew ?_ | refine blk_alloc ?_ _)); refine blk_put (cs := #[.int .i64 a0_0, .int .i64 a0_1, .bool false, .slice none 0 0]) ?_ 2 _ rfl; (with_reducible repeat (first | refine blk_drewN ?_ _ | refine blk_drew ?_ | refine blk_alloc ?_ _)); refine blk_put (cs := #[.int .i64 a0_0, .int .i64 0, .bool false, .slice none 0 0]) ?_ 1 _ rfl; (with_reducible repeat (first | refine blk_drewN ?_ _ | refine blk_drew ?_ | refine blk_alloc ?_ _)); refine blk_put (cs := #[.int .i64 0, .int .i64 0, .bool false, .slice none 0 0]) ?_ 0 _ rfl; (with_reducible repeat (first | refine blk_drewN ?_ _ | refine blk_drew ?_ | refine blk_alloc ?_ _)); exact BK379.out⟩, ⟨Q68⟩⟩
 case round =>
  clear H'
  try clear hcz5_0 hcz5_1 hcz5_2 hcz5_3 hfz5_0 hfz5_1 hfz5_2 hfz5_3
  try clear hcz9_0 hcz9_1 hcz9_2 hcz9_3 hfz9_0 hfz9_1 hfz9_2 hfz9_3
  obtain ⟨x4_1, x380003_1, u380003, rfl, HA, HK1, HO_378003, HO_380003, BK377, BK378, BK379, HB⟩ := hrel
  cases gk with
  | zero => exact absurd HA.out (by simp [mandrellaw11_giveCode.l0])
  | succ k1 =>
   have H := HA.out
   clear HA
   simp only [mandrellaw11_giveCode.l0] at H
   by_cases c10 : x4_1 < (l0_3.length : Int)
   ·rw [if_pos c10] at H
    have c10b0 : decide (x4_1 < (l0_3.length : Int)) = true := decide_eq_true c10
    clear c10
    by_cases c11 : 0 ≤ x4_1
    ·rw [if_pos c11] at H
     have c11b0 : decide (0 ≤ x4_1) = true := decide_eq_true c11
     clear c11
     have H' := Aside0.mk H
     clear H
     have hnb12 := NB377_378.out
     have hnc12 := NB378_377.out
     have hnb13 := NB377_379.out
     have hnc13 := NB379_377.out
     have ⟨hcz14_0, hcz14_1, hcz14_2, hcz14_3, hfz14_0, hfz14_1, hfz14_2, hfz14_3⟩ := blk4 BK377.out
     try go_wp2
     have n0_ := Aside0.mk (Kd.V_drew HO_378003.out)
     have n1_ := Aside0.mk (Kd.N_drew HO_380003.out)
     have n2_ := Aside0.mk (blk_drew BK377.out)
     have n3_ := Aside0.mk (blk_drew BK378.out)
     have n4_ := Aside0.mk (blk_drew BK379.out)
     have n5_ := Aside0.mk (below_drew1 HB.out)
     clear HO_378003
     clear HO_380003
     clear BK377
     clear BK378
     clear BK379
     clear HB
     have HO_378003 := n0_
     have HO_380003 := n1_
     have BK377 := n2_
     have BK378 := n3_
     have BK379 := n4_
     have HB := n5_
     clear n0_ n1_ n2_ n3_ n4_ n5_
     have p380 : 0 ≤ (x4_1 : Int) := of_decide_eq_true Q4
     have q380 : x4_1 < (l0_3.length : Int) := of_decide_eq_true Q4
     obtain ⟨ad380, A380_0, c380_0, A380_1, c380_1, e380, hx380_0, hx380_1, hx380_2, hl380_0, hi380_0, hl380_1, hi380_1⟩ := at_T80 (Kd.V_reads' HO_378003.out).2.2 x4_1 p380 q380
     cases e380
     obtain ⟨ce380, hce380, hMe380, hcc380⟩ := Kd.V_get HO_378003.out z80 x4_1 p380 (by first | exact q380 | exact of_decide_eq_true Q4 | (have e_ := (Kd.V_reads' HO_378003.out).1; omega))
     obtain ⟨ua380_0, uc380_0, ua380_1, uc380_1, rfl, ul380_0, ge380_0, ul380_1, ge380_1⟩ := k80_openF hMe380
     have hv380_0 := hcc380 0 _ rfl
     rw [Nat.add_zero] at hv380_0
     replace hv380_0 := Option.some.inj (hv380_0.symm.trans hx380_0)
     injection hv380_0 with hva_ hvn_ hvc_
     rw [hva_] at ge380_0
     rw [hvc_] at ul380_0
     have HL380_0 := Aside0.mk (show Kd.V k83 83 _ w.heap.size _ _ ((rd_T80 l0_3 x4_1).f0) from Kd.V_mk ul380_0 ge380_0)
     clear hva_ hvn_ hvc_ ge380_0 ul380_0
     have hv380_1 := hcc380 1 _ rfl
     rw [add_field _ _ 1 Q20] at hv380_1
     replace hv380_1 := Option.some.inj (hv380_1.symm.trans hx380_1)
     injection hv380_1 with hva_ hvn_ hvc_
     rw [hva_] at ge380_1
     rw [hvc_] at ul380_1
     have HL380_1 := Aside0.mk (show Kd.V (Kd.int .i64) 3 _ w.heap.size _ _ ((rd_T80 l0_3 x4_1).f1) from Kd.V_mk ul380_1 ge380_1)
     clear hva_ hvn_ hvc_ ge380_1 ul380_1
     clear hcc380 hce380
     have HR380_0 := Aside0.mk hi380_0
     have HC380_0 := Aside0.mk hl380_0
     clear hi380_0 hl380_0
     have HR380_1 := Aside0.mk hi380_1
     have HC380_1 := Aside0.mk hl380_1
     clear hi380_1 hl380_1
     replace p380 := eq_true p380
     replace q380 := eq_true q380
     have p381 : 0 ≤ (x4_1 : Int) := of_decide_eq_true Q4
     have q381 : x4_1 < (l0_3.length : Int) := of_decide_eq_true Q4
     obtain ⟨ad381, A381_0, c381_0, A381_1, c381_1, e381, hx381_0, hx381_1, hx381_2, hl381_0, hi381_0, hl381_1, hi381_1⟩ := at_T80 (Kd.V_reads' HO_378003.out).2.2 x4_1 p381 q381
     obtain rfl : ad380 = ad381 := (by injection e381)
     obtain ⟨ce381, hce381, hMe381, hcc381⟩ := Kd.V_get HO_378003.out z80 x4_1 p381 (by first | exact q381 | exact of_decide_eq_true Q4 | (have e_ := (Kd.V_reads' HO_378003.out).1; omega))
     obtain ⟨ua381_0, uc381_0, ua381_1, uc381_1, rfl, ul381_0, ge381_0, ul381_1, ge381_1⟩ := k80_openF hMe381
     have hv381_0 := hcc381 0 _ rfl
     rw [Nat.add_zero] at hv381_0
     replace hv381_0 := Option.some.inj (hv381_0.symm.trans hx381_0)
     injection hv381_0 with hva_ hvn_ hvc_
     rw [hva_] at ge381_0
     rw [hvc_] at ul381_0
     have HL381_0 := Aside0.mk (show Kd.V k83 83 _ w.heap.size _ _ ((rd_T80 l0_3 x4_1).f0) from Kd.V_mk ul381_0 ge381_0)
     clear hva_ hvn_ hvc_ ge381_0 ul381_0
     have hv381_1 := hcc381 1 _ rfl
     rw [add_field _ _ 1 Q20] at hv381_1
     replace hv381_1 := Option.some.inj (hv381_1.symm.trans hx381_1)
     injection hv381_1 with hva_ hvn_ hvc_
     rw [hva_] at ge381_1
     rw [hvc_] at ul381_1
     have HL381_1 := Aside0.mk (show Kd.V (Kd.int .i64) 3 _ w.heap.size _ _ ((rd_T80 l0_3 x4_1).f1) from Kd.V_mk ul381_1 ge381_1)
     clear hva_ hvn_ hvc_ ge381_1 ul381_1
     clear hcc381 hce381
     have HR381_0 := Aside0.mk hi381_0
     have HC381_0 := Aside0.mk hl381_0
     clear hi381_0 hl381_0
     have HR381_1 := Aside0.mk hi381_1
     have HC381_1 := Aside0.mk hl381_1
     clear hi381_1 hl381_1
     replace p381 := eq_true p381
     replace q381 := eq_true q381
     have ea_ := Option.some.inj (hx380_0.symm.trans hx381_0)
     injection ea_ with ea_ en_ ec_
     subst ea_
     subst ec_
     clear en_
     have ea_ := Option.some.inj (hx380_1.symm.trans hx381_1)
     injection ea_ with ea_ en_ ec_
     subst ea_
     subst ec_
     clear en_
     refine start_ (n := 15) (S := fun w' => w'.cell? ⟨gb377, 0, none⟩ = some (.int .i64 a0_0) ∧ w'.cell? ⟨gb377, 1, none⟩ = some (.int .i64 a0_1) ∧ w'.cell? ⟨gb377, 2, none⟩ = some (.bool a0_2) ∧ w'.cell? ⟨gb377, 3, none⟩ = some (.slice (some ad380) l0_3.length c0_3) ∧ w'.cell? (ad380.add ((x4_1).toNat * 3)) = some (.slice A380_0 ((rd_T80 l0_3 x4_1).f0).length c380_0) ∧ w'.cell? ⟨(ad380.add ((x4_1).toNat * 3)).block, (ad380.add ((x4_1).toNat * 3)).off + 1, none⟩ = some (.slice A380_1 ((rd_T80 l0_3 x4_1).f1).length c380_1) ∧ w'.cell? ⟨(ad380.add ((x4_1).toNat * 3)).block, (ad380.add ((x4_1).toNat * 3)).off + 2, none⟩ = some (.int .i64 ((rd_T80 l0_3 x4_1).f2)) ∧ w'.cell? (ad380.add ((x4_1).toNat * 3)) = some (.slice A380_0 ((rd_T80 l0_3 x4_1).f0).length c380_0) ∧ w'.cell? ⟨(ad380.add ((x4_1).toNat * 3)).block, (ad380.add ((x4_1).toNat * 3)).off + 1, none⟩ = some (.slice A380_1 ((rd_T80 l0_3 x4_1).f1).length c380_1) ∧ w'.cell? ⟨(ad380.add ((x4_1).toNat * 3)).block, (ad380.add ((x4_1).toNat * 3)).off + 2, none⟩ = some (.int .i64 ((rd_T80 l0_3 x4_1).f2))) (ds := []) #[false, false, false, false, false, false, false, false, false, false, false, false, false, false, false] Q0 rfl rfl ⟨(blk_cell BK377.out 0).trans rfl, (blk_cell BK377.out 1).trans rfl, (blk_cell BK377.out 2).trans rfl, (blk_cell BK377.out 3).trans rfl, hx380_0, hx380_1, hx380_2, hx381_0, hx381_1, hx381_2⟩ (fun hHeld => ?_); refine with_tabW mandrellaw11_giveCode.tab5 mandrellaw11_giveCode.bits5 (fun HT_ HW_ => ?_)
     generalize wr.drew = w15 at HO_378003 HO_380003 BK377 BK378 BK379 HB HL380_0 HL380_1 HL381_0 HL381_1 HR380_0 HR380_1 HR381_0 HR381_1 hx380_0 hx380_1 hx380_2 hx381_0 hx381_1 hx381_2 hHeld ⊢
     refine pure_ (i := 0) (N := some 21) (bv 15 1) rfl rfl Q152 (fun _ _ _ h => h) Q153 Q5 ?_
     refine pure_ (i := 2) (N := some 23) (bv 15 5) rfl rfl Q152 (fun _ _ _ h => h) Q153 Q5 ?_
     refine pure_ (i := 6) (N := some 27) (bv 15 69) rfl rfl Q152 (fun _ _ _ h => h) Q153 Q5 ?_
     refine pure_ (i := 8) (N := some 29) (bv 15 325) rfl rfl Q152 (fun _ _ _ h => h) Q153 Q5 ?_
     refine take_ (i := 1) (N := some 22) (bv 15 327) rfl rfl Q156 (fun _ _ _ h => h) Q172 hHeld Q5 ?_
     refine pure_ (i := 3) (N := some 24) (bv 15 335) rfl rfl Q152 (fun _ _ _ h => h) Q153 Q5 ?_
     refine pure_ (i := 4) (N := some 25) (bv 15 351) rfl rfl Q152 (fun _ _ _ h => h) Q153 Q5 ?_
     refine take_ (i := 5) (N := some 26) (bv 15 383) rfl rfl Q156 (fun _ _ _ h => h) Q172 hHeld Q5 ?_
     refine take_ (i := 7) (N := some 28) (bv 15 511) rfl rfl Q156 (fun _ _ _ h => h) Q172 hHeld Q5 ?_
     refine pure_ (i := 9) (N := some 30) (bv 15 1023) rfl rfl Q152 (fun _ _ _ h => h) Q153 Q5 ?_
     refine pure_ (i := 10) (N := some 31) (bv 15 2047) rfl rfl Q152 (fun _ _ _ h => h) Q153 Q5 ?_
     refine take_ (i := 11) (N := some 32) (bv 15 4095) rfl rfl Q156 (fun _ _ _ h => h) Q172 hHeld Q5 ?_
     refine pure_ (i := 12) (N := some 33) (bv 15 8191) rfl rfl Q152 (fun _ _ _ h => h) Q153 Q5 ?_
     refine one_ (i := 13) (N := some 5) #[true, true, true, true, true, true, true, true, true, true, true, true, true, true, false] rfl rfl (one_of HT_.out Q0) Q12 (fun K hK => ?_)
     refine box_step ?hg (N := 5) ?hd (cs := #[.slice none 0 0, .slice none 0 0, .int .i64 0]) (t := 87) ?hr ?_; (case hd => rfl); (case hg => rfl); (case hr => first | (go_simp; done) | (go_simp; rfl))
     intro gb382 hg w16 hbox hb
     have HS4_ := (hb.cell (World.block_lt_of_cell? _ _ (hHeld.2.2.2.2.1))).trans (hHeld.2.2.2.2.1)
     have HS5_ := (hb.cell (World.block_lt_of_cell? _ _ (hHeld.2.2.2.2.2.1))).trans (hHeld.2.2.2.2.2.1)
     have HS6_ := (hb.cell (World.block_lt_of_cell? _ _ (hHeld.2.2.2.2.2.2.1))).trans (hHeld.2.2.2.2.2.2.1)
     have HS7_ := (hb.cell (World.block_lt_of_cell? _ _ (hHeld.2.2.2.2.2.2.2.1))).trans (hHeld.2.2.2.2.2.2.2.1)
     have HS8_ := (hb.cell (World.block_lt_of_cell? _ _ (hHeld.2.2.2.2.2.2.2.2.1))).trans (hHeld.2.2.2.2.2.2.2.2.1)
     have HS9_ := (hb.cell (World.block_lt_of_cell? _ _ (hHeld.2.2.2.2.2.2.2.2.2))).trans (hHeld.2.2.2.2.2.2.2.2.2)
     have n0_ := Aside0.mk (Kd.V_below (Kd.V_elderB (by (with_reducible repeat (first | apply Kd.V_alloc | apply Kd.V_drewN | apply Kd.V_drew)); exact HO_378003.out) gb382 (Nat.le_of_eq hg.symm)) hb)
     have n1_ := Aside0.mk (Kd.N_below (Kd.N_elderB Q130 gb382 (Nat.le_of_eq hg.symm)) hb)
     have n2_ := Aside0.mk (Kd.V_below (Kd.V_elderB (by (with_reducible repeat (first | apply Kd.V_alloc | apply Kd.V_drewN | apply Kd.V_drew)); exact HL380_0.out) gb382 (Nat.le_of_eq hg.symm)) hb)
     have n3_ := Aside0.mk (Kd.V_below (Kd.V_elderB (by (with_reducible repeat (first | apply Kd.V_alloc | apply Kd.V_drewN | apply Kd.V_drew)); exact HL380_1.out) gb382 (Nat.le_of_eq hg.symm)) hb)
     have n4_ := Aside0.mk (Kd.V_below (Kd.V_elderB (by (with_reducible repeat (first | apply Kd.V_alloc | apply Kd.V_drewN | apply Kd.V_drew)); exact HL381_0.out) gb382 (Nat.le_of_eq hg.symm)) hb)
     have n5_ := Aside0.mk (Kd.V_below (Kd.V_elderB (by (with_reducible repeat (first | apply Kd.V_alloc | apply Kd.V_drewN | apply Kd.V_drew)); exact HL381_1.out) gb382 (Nat.le_of_eq hg.symm)) hb)
     have n6_ := Aside0.mk (blk_below (g := gb377) (o := .cells #[.int .i64 a0_0, .int .i64 a0_1, .bool a0_2, .slice (some ad380) l0_3.length c0_3] 24 (0, 0)) Q39 hb)
     have n7_ := Aside0.mk (blk_below (g := gb378) (o := .cells #[.int .i64 0, .int .i64 0, .bool false, .slice none 0 0] 35 (0, 0)) Q48 hb)
     have n8_ := Aside0.mk (blk_below (g := gb379) (o := .cells #[.int .i64 a0_0, .int .i64 a0_1, .bool a0_2, u380003] 35 (0, 0)) Q57 hb)
     have n9_ := Aside0.mk (Kd.C_below (by repeat (first | (with_reducible exact HR380_0.out) | (with_reducible refine Kd.C_alloc ?_ _) | (with_reducible refine Kd.C_drewN ?_ _) | (with_reducible refine Kd.C_drew ?_) | exact HR380_0.out)) hb)
     have n10_ := Aside0.mk (Kd.C_below (by repeat (first | (with_reducible exact HR380_1.out) | (with_reducible refine Kd.C_alloc ?_ _) | (with_reducible refine Kd.C_drewN ?_ _) | (with_reducible refine Kd.C_drew ?_) | exact HR380_1.out)) hb)
     have n11_ := Aside0.mk (Kd.C_below (by repeat (first | (with_reducible exact HR381_0.out) | (with_reducible refine Kd.C_alloc ?_ _) | (with_reducible refine Kd.C_drewN ?_ _) | (with_reducible refine Kd.C_drew ?_) | exact HR381_0.out)) hb)
     have n12_ := Aside0.mk (Kd.C_below (by repeat (first | (with_reducible exact HR381_1.out) | (with_reducible refine Kd.C_alloc ?_ _) | (with_reducible refine Kd.C_drewN ?_ _) | (with_reducible refine Kd.C_drew ?_) | exact HR381_1.out)) hb)
     have n13_ := Aside0.mk (below_step Q68 hb)
     have n14_ := Aside0.mk (hbox)
     have n15_ := Aside0.mk ((by rw [hg]; exact (below_size Q68) : w.heap.size ≤ gb382))
     have n16_ := Aside0.mk ((by rw [hg]; exact (below_size Q68) : w.heap.size ≤ gb382))
     have n17_ := Aside0.mk ((by rw [hg]; exact Nat.ne_of_lt (blk_lt (g := gb377) (o := .cells #[.int .i64 a0_0, .int .i64 a0_1, .bool a0_2, .slice (some ad380) l0_3.length c0_3] 24 (0, 0)) Q39) : gb377 ≠ gb382))
     have n18_ := Aside0.mk ((by rw [hg]; exact Nat.ne_of_gt (blk_lt (g := gb377) (o := .cells #[.int .i64 a0_0, .int .i64 a0_1, .bool a0_2, .slice (some ad380) l0_3.length c0_3] 24 (0, 0)) Q39) : gb382 ≠ gb377))
     have n19_ := Aside0.mk ((Q179 : gb378 ≠ gb382))
     have n20_ := Aside0.mk ((Q180 : gb382 ≠ gb378))
     have n21_ := Aside0.mk ((by rw [hg]; exact Nat.ne_of_lt (blk_lt (g := gb379) (o := .cells #[.int .i64 a0_0, .int .i64 a0_1, .bool a0_2, u380003] 35 (0, 0)) Q57) : gb379 ≠ gb382))
     have n22_ := Aside0.mk ((by rw [hg]; exact Nat.ne_of_gt (blk_lt (g := gb379) (o := .cells #[.int .i64 a0_0, .int .i64 a0_1, .bool a0_2, u380003] 35 (0, 0)) Q57) : gb382 ≠ gb379))
     clear HO_378003
     clear HO_380003
     clear HL380_0
     clear HL380_1
     clear HL381_0
     clear HL381_1
     clear BK377
     clear BK378
     clear BK379
     clear HR380_0
     clear HR380_1
     clear HR381_0
     clear HR381_1
     clear HB
     have HO_378003 := n0_
     have HO_380003 := n1_
     have HL380_0 := n2_
     have HL380_1 := n3_
     have HL381_0 := n4_
     have HL381_1 := n5_
     have BK377 := n6_
     have BK378 := n7_
     have BK379 := n8_
     have HR380_0 := n9_
     have HR380_1 := n10_
     have HR381_0 := n11_
     have HR381_1 := n12_
     have HB := n13_
     have BK382 := n14_
     have GW382 := n15_
     have GE382 := n16_
     have NB377_382 := n17_
     have NB382_377 := n18_
     have NB378_382 := n19_
     have NB382_378 := n20_
     have NB379_382 := n21_
     have NB382_379 := n22_
     clear n0_ n1_ n2_ n3_ n4_ n5_ n6_ n7_ n8_ n9_ n10_ n11_ n12_ n13_ n14_ n15_ n16_ n17_ n18_ n19_ n20_ n21_ n22_
     clear hb hbox hg
     refine hK.out _ _ ⟨(blk_cell BK377.out 0).trans rfl, (blk_cell BK377.out 1).trans rfl, (blk_cell BK377.out 2).trans rfl, (blk_cell BK377.out 3).trans rfl, HS4_, HS5_, HS6_, HS7_, HS8_, HS9_⟩ (fun hHeld => ?_)
     clear hK K
     refine norm_ (a' := ?_) ?_ ?_
     rotate_left
     ·show Act.put _ (some 5) _ = _
      simp only [Act.put, List.setIfInBounds_toArray, List.set_cons_zero, List.set_cons_succ, i64_w, i32_w]
      rfl
     refine one_ (i := 14) (N := none) #[true, true, true, true, true, true, true, true, true, true, true, true, true, true, true] rfl rfl (one_of HT_.out Q0) Q12 (fun K hK => ?_)
     have hs17 : w16.cell? ⟨gb382, 0, none⟩ = some (.slice none 0 0) := (blk_cell BK382.out 0).trans rfl
     have hfs17 := blk_frozen BK382.out 0
     have hns17_0 := NB377_382.out
     have hns17_1 := NB378_382.out
     have hns17_2 := NB379_382.out
     have hms17_0 := NB382_377.out
     have hms17_1 := NB382_378.out
     have hms17_2 := NB382_379.out
     have hs18 : w16.cell? ⟨gb382, 1, none⟩ = some (.slice none 0 0) := (blk_cell BK382.out 1).trans rfl
     have hfs18 := blk_frozen BK382.out 1
     have hns18_0 := NB377_382.out
     have hns18_1 := NB378_382.out
     have hns18_2 := NB379_382.out
     have hms18_0 := NB382_377.out
     have hms18_1 := NB382_378.out
     have hms18_2 := NB382_379.out
     have hs19 : w16.cell? ⟨gb382, 2, none⟩ = some (.int .i64 0) := (blk_cell BK382.out 2).trans rfl
     have hfs19 := blk_frozen BK382.out 2
     have hns19_0 := NB377_382.out
     have hns19_1 := NB378_382.out
     have hns19_2 := NB379_382.out
     have hms19_0 := NB382_377.out
     have hms19_1 := NB382_378.out
     have hms19_2 := NB382_379.out
     refine skip_ (w1 := ?_) Q2 rfl ?_ ?_
     rotate_left
     ·go_simp
      rfl
     refine hK.out _ _ ⟨((cell_far (p := ⟨gb382, _, none⟩) NB377_382.out _).trans (((cell_far (p := ⟨gb382, _, none⟩) NB377_382.out _).trans (((cell_far (p := ⟨gb382, _, none⟩) NB377_382.out _).trans (hHeld.1)))))), ((cell_far (p := ⟨gb382, _, none⟩) NB377_382.out _).trans (((cell_far (p := ⟨gb382, _, none⟩) NB377_382.out _).trans (((cell_far (p := ⟨gb382, _, none⟩) NB377_382.out _).trans (hHeld.2.1)))))), ((cell_far (p := ⟨gb382, _, none⟩) NB377_382.out _).trans (((cell_far (p := ⟨gb382, _, none⟩) NB377_382.out _).trans (((cell_far (p := ⟨gb382, _, none⟩) NB377_382.out _).trans (hHeld.2.2.1)))))), ((cell_far (p := ⟨gb382, _, none⟩) NB377_382.out _).trans (((cell_far (p := ⟨gb382, _, none⟩) NB377_382.out _).trans (((cell_far (p := ⟨gb382, _, none⟩) NB377_382.out _).trans (hHeld.2.2.2.1)))))), ((cell_far (p := ⟨gb382, _, none⟩) Q182 _).trans (((cell_far (p := ⟨gb382, _, none⟩) Q182 _).trans (((cell_far (p := ⟨gb382, _, none⟩) Q182 _).trans (hHeld.2.2.2.2.1)))))), ((cell_far (p := ⟨gb382, _, none⟩) Q182 _).trans (((cell_far (p := ⟨gb382, _, none⟩) Q182 _).trans (((cell_far (p := ⟨gb382, _, none⟩) Q182 _).trans (hHeld.2.2.2.2.2.1)))))), ((cell_far (p := ⟨gb382, _, none⟩) Q182 _).trans (((cell_far (p := ⟨gb382, _, none⟩) Q182 _).trans (((cell_far (p := ⟨gb382, _, none⟩) Q182 _).trans (hHeld.2.2.2.2.2.2.1)))))), ((cell_far (p := ⟨gb382, _, none⟩) Q182 _).trans (((cell_far (p := ⟨gb382, _, none⟩) Q182 _).trans (((cell_far (p := ⟨gb382, _, none⟩) Q182 _).trans (hHeld.2.2.2.2.2.2.2.1)))))), ((cell_far (p := ⟨gb382, _, none⟩) Q182 _).trans (((cell_far (p := ⟨gb382, _, none⟩) Q182 _).trans (((cell_far (p := ⟨gb382, _, none⟩) Q182 _).trans (hHeld.2.2.2.2.2.2.2.2.1)))))), ((cell_far (p := ⟨gb382, _, none⟩) Q182 _).trans (((cell_far (p := ⟨gb382, _, none⟩) Q182 _).trans (((cell_far (p := ⟨gb382, _, none⟩) Q182 _).trans (hHeld.2.2.2.2.2.2.2.2.2))))))⟩ (fun hHeld => ?_)
     clear hK K
     refine done_ (done_of HT_.out Q0) ?_
     try go_wp2
     go_loopg [6] k1 (fun kq v6 w' => ∃ (x6_2 : Int) (x383000_2 : List (S84)) (u383000 : Value), v6 = .int .i64 x6_2 ∧ Aside0 (mandrellaw11_giveCode.l1 kq x4_1 x6_2 a0_0 a0_1 a0_2 l0_3 a0_0 a0_1 a0_2 x380003_1 x383000_2 ((rd_T80 l0_3 x4_1).f1) ((rd_T80 l0_3 x4_1).f2) = some (r1, r2, r3, r4)) ∧ Aside0 (kq ≤ k1) ∧ Aside0 (Kd.V k80 80 w' w.heap.size (fun k_ => (P0_3_ k_ ∨ w.heap.size ≤ k_) ∧ some k_ ≠ (u380003 : Value).ownBlock ∧ some k_ ≠ (u383000 : Value).ownBlock ∧ k_ ≠ gb377 ∧ k_ ≠ gb378 ∧ k_ ≠ gb379 ∧ k_ ≠ gb382) (.slice (some ad380) l0_3.length c0_3) l0_3) ∧ Aside0 (Kd.N k87 87 w' w.heap.size (fun k_ => (P0_3_ k_ ∨ w.heap.size ≤ k_) ∧ some k_ ≠ (u383000 : Value).ownBlock ∧ k_ ≠ gb377 ∧ k_ ≠ gb378 ∧ k_ ≠ gb379 ∧ k_ ≠ gb382) u380003 x380003_1) ∧ Aside0 (Kd.N k84 84 w' w.heap.size (fun k_ => (P0_3_ k_ ∨ w.heap.size ≤ k_) ∧ some k_ ≠ (u380003 : Value).ownBlock ∧ k_ ≠ gb377 ∧ k_ ≠ gb378 ∧ k_ ≠ gb379 ∧ k_ ≠ gb382) u383000 x383000_2) ∧ Aside0 (Kd.V (Kd.int .i64) 3 w' w.heap.size (fun k_ => (P0_3_ k_ ∨ w.heap.size ≤ k_) ∧ some k_ ≠ (u380003 : Value).ownBlock ∧ some k_ ≠ (u383000 : Value).ownBlock ∧ k_ ≠ gb377 ∧ k_ ≠ gb378 ∧ k_ ≠ gb379 ∧ k_ ≠ gb382) (.slice A380_1 ((rd_T80 l0_3 x4_1).f1).length c380_1) ((rd_T80 l0_3 x4_1).f1)) ∧ Aside0 (w'.heap[gb377]? = some (.cells #[.int .i64 a0_0, .int .i64 a0_1, .bool a0_2, (.slice (some ad380) l0_3.length c0_3)] 24 (0, 0))) ∧ Aside0 (w'.heap[gb378]? = some (.cells #[.int .i64 0, .int .i64 0, .bool false, (.slice none 0 0)] 35 (0, 0))) ∧ Aside0 (w'.heap[gb379]? = some (.cells #[.int .i64 a0_0, .int .i64 a0_1, .bool a0_2, u380003] 35 (0, 0))) ∧ Aside0 (w'.heap[gb382]? = some (.cells #[u383000, (.slice A380_1 ((rd_T80 l0_3 x4_1).f1).length c380_1), .int .i64 ((rd_T80 l0_3 x4_1).f2)] 87 (0, 0))) ∧ Aside0 (Below w.heap.size w w'))
     case atStart => exact ⟨(0), (([] : List (S84))), (.slice none 0 0), Q3, H', ⟨Nat.le_refl _⟩, ⟨by (with_reducible repeat (first | apply Kd.V_alloc | apply Kd.V_drewN | apply Kd.V_drew)); exact Kd.V_mono (Kd.V_far (p := ⟨gb382, 2, none⟩) (Kd.V_far (p := ⟨gb382, 1, none⟩) (Kd.V_far (p := ⟨gb382, 0, none⟩) (Kd.V_mono HO_378003.out (fun k_ hk => (⟨hk, hk.2⟩ : _ ∧ k_ ≠ gb382))) (fun _ hk => hk.2) (.slice none 0 0)) (fun _ hk => hk.2) (.slice A380_1 ((rd_T80 l0_3 x4_1).f1).length c380_1)) (fun _ hk => hk.2) (.int .i64 ((rd_T80 l0_3 x4_1).f2))) (fun _ hk => ⟨hk.1.1.1, ⟨hk.1.1.2.1, ⟨Q64, ⟨hk.1.1.2.2.1, ⟨hk.1.1.2.2.2.1, ⟨hk.1.1.2.2.2.2, hk.1.2⟩⟩⟩⟩⟩⟩)⟩, ⟨by (with_reducible repeat (first | apply Kd.N_alloc | apply Kd.N_drewN | apply Kd.N_drew)); exact Kd.N_mono (Kd.N_far (p := ⟨gb382, 2, none⟩) (Kd.N_far (p := ⟨gb382, 1, none⟩) (Kd.N_far (p := ⟨gb382, 0, none⟩) (Kd.N_mono HO_380003.out (fun k_ hk => (⟨hk, hk.2⟩ : _ ∧ k_ ≠ gb382))) (fun _ hk => hk.2) (.slice none 0 0)) (fun _ hk => hk.2) (.slice A380_1 ((rd_T80 l0_3 x4_1).f1).length c380_1)) (fun _ hk => hk.2) (.int .i64 ((rd_T80 l0_3 x4_1).f2))) (fun _ hk => ⟨hk.1.1.1, ⟨Q64, ⟨hk.1.1.2.1, ⟨hk.1.1.2.2.1, ⟨hk.1.1.2.2.2, hk.1.2⟩⟩⟩⟩⟩)⟩, ⟨by first | exact Kd.S_nil _ _ _ _ _ | exact Kd.N_nil _ _ _ _ _ | exact Kd.V_nil _ _ _ _ _ | exact Kd.Q_nil _ _ _ _ _ | exact Kd.R_nil _ _ _ _ _⟩, ⟨by (with_reducible repeat (first | apply Kd.V_alloc | apply Kd.V_drewN | apply Kd.V_drew)); exact Kd.V_mono (Kd.V_far (p := ⟨gb382, 2, none⟩) (Kd.V_far (p := ⟨gb382, 1, none⟩) (Kd.V_far (p := ⟨gb382, 0, none⟩) (Kd.V_mono HL380_1.out (fun k_ hk => (⟨hk, hk.2⟩ : _ ∧ k_ ≠ gb382))) (fun _ hk => hk.2) (.slice none 0 0)) (fun _ hk => hk.2) (.slice A380_1 ((rd_T80 l0_3 x4_1).f1).length c380_1)) (fun _ hk => hk.2) (.int .i64 ((rd_T80 l0_3 x4_1).f2))) (fun _ hk => ⟨hk.1.1.1, ⟨hk.1.1.2.1, ⟨Q64, ⟨hk.1.1.2.2.1, ⟨hk.1.1.2.2.2.1, ⟨hk.1.1.2.2.2.2, hk.1.2⟩⟩⟩⟩⟩⟩)⟩, ⟨by (with_reducible repeat (first | refine blk_drewN ?_ _ | refine blk_drew ?_ | refine blk_alloc ?_ _)); refine blk_far ?_ NB377_382.out _; (with_reducible repeat (first | refine blk_drewN ?_ _ | refine blk_drew ?_ | refine blk_alloc ?_ _)); refine blk_far ?_ NB377_382.out _; (with_reducible repeat (first | refine blk_drewN ?_ _ | refine blk_drew ?_ | refine blk_alloc ?_ _)); refine blk_far ?_ NB377_382.out _; (with_reducible repeat (first | refine blk_drewN ?_ _ | refine blk_drew ?_ | refine blk_alloc ?_ _)); exact BK377.out⟩, ⟨by (with_reducible repeat (first | refine blk_drewN ?_ _ | refine blk_drew ?_ | refine blk_alloc ?_ _)); refine blk_far ?_ NB378_382.out _; (with_reducible repeat (first | refine blk_drewN ?_ _ | refine blk_drew ?_ | refine blk_alloc ?_ _)); refine blk_far ?_ NB378_382.out _; (with_reducible repeat (first | refine blk_drewN ?_ _ | refine blk_drew ?_ | refine blk_alloc ?_ _)); refine blk_far ?_ NB378_382.out _; (with_reducible repeat (first | refine blk_drewN ?_ _ | refine blk_drew ?_ | refine blk_alloc ?_ _)); exact BK378.out⟩, ⟨by (with_reducible repeat (first | refine blk_drewN ?_ _ | refine blk_drew ?_ | refine blk_alloc ?_ _)); refine blk_far ?_ NB379_382.out _; (with_reducible repeat (first | refine blk_drewN ?_ _ | refine blk_drew ?_ | refine blk_alloc ?_ _)); refine blk_far ?_ NB379_382.out _; (with_reducible repeat (first | refine blk_drewN ?_ _ | refine blk_drew ?_ | refine blk_alloc ?_ _)); refine blk_far ?_ NB379_382.out _; (with_reducible repeat (first | refine blk_drewN ?_ _ | refine blk_drew ?_ | refine blk_alloc ?_ _)); exact BK379.out⟩, ⟨by (with_reducible repeat (first | refine blk_drewN ?_ _ | refine blk_drew ?_ | refine blk_alloc ?_ _)); refine blk_put (cs := #[.slice none 0 0, .slice A380_1 ((rd_T80 l0_3 x4_1).f1).length c380_1, .int .i64 0]) ?_ 2 _ rfl; (with_reducible repeat (first | refine blk_drewN ?_ _ | refine blk_drew ?_ | refine blk_alloc ?_ _)); refine blk_put (cs := #[.slice none 0 0, .slice none 0 0, .int .i64 0]) ?_ 1 _ rfl; (with_reducible repeat (first | refine blk_drewN ?_ _ | refine blk_drew ?_ | refine blk_alloc ?_ _)); refine blk_put (cs := #[.slice none 0 0, .slice none 0 0, .int .i64 0]) ?_ 0 _ rfl; (with_reducible repeat (first | refine blk_drewN ?_ _ | refine blk_drew ?_ | refine blk_alloc ?_ _)); exact BK382.out⟩, ⟨Q51⟩⟩
     case round =>
      clear H'
      try clear q3
      try clear hx3
      try clear c10
      try clear c10b0
      try clear c11
      try clear c11b0
      try clear hcz14_0 hcz14_1 hcz14_2 hcz14_3 hfz14_0 hfz14_1 hfz14_2 hfz14_3
      try clear hcz5_0 hcz5_1 hcz5_2 hcz5_3 hfz5_0 hfz5_1 hfz5_2 hfz5_3
      try clear hcz9_0 hcz9_1 hcz9_2 hcz9_3 hfz9_0 hfz9_1 hfz9_2 hfz9_3
      try clear hx380_0
      try clear hx380_1
      try clear hx380_2
      try clear hx381_0
      try clear hx381_1
      try clear hx381_2
      try clear p380
      try clear p381
      try clear q380
      try clear q381
      obtain ⟨x6_2, x383000_2, u383000, rfl, HA, HK2, HO_378003, HO_380003, HO_383000, HO_383001, BK377, BK378, BK379, BK382, HB⟩ := hrel
      cases gk with
      | zero => exact absurd HA.out (by simp [mandrellaw11_giveCode.l1])
      | succ k2 =>
       have H := HA.out
       clear HA
       simp only [mandrellaw11_giveCode.l1] at H
       by_cases c20 : 0 ≤ x4_1
       ·rw [if_pos c20] at H
        have c20b0 : decide (0 ≤ x4_1) = true := decide_eq_true c20
        clear c20
        by_cases c21 : x4_1 < (l0_3.length : Int)
        ·rw [if_pos c21] at H
         have c21b0 : decide (x4_1 < (l0_3.length : Int)) = true := decide_eq_true c21
         clear c21
         by_cases c22 : x6_2 < (((rd_T80 l0_3 x4_1).f0).length : Int)
         ·rw [if_pos c22] at H
          have c22b0 : decide (x6_2 < (((rd_T80 l0_3 x4_1).f0).length : Int)) = true := decide_eq_true c22
          clear c22
          by_cases c23 : 0 ≤ x6_2
          ·rw [if_pos c23] at H
           have c23b0 : decide (0 ≤ x6_2) = true := decide_eq_true c23
           clear c23
           by_cases c24 : x383000_2.length < 2513169434916
           ·rw [if_pos c24] at H
            have LMc24 := Aside0.mk c24
            clear c24
            obtain ⟨y386, hy386⟩ : ∃ y_ : List (S84), y_ = (x383000_2 ++ [(⟨(rd_T83 ((rd_T80 l0_3 x4_1).f0) x6_2).f0, (rd_T83 ((rd_T80 l0_3 x4_1).f0) x6_2).f1, (rd_T83 ((rd_T80 l0_3 x4_1).f0) x6_2).f2, (rd_T83 ((rd_T80 l0_3 x4_1).f0) x6_2).f3, (rd_T83 ((rd_T80 l0_3 x4_1).f0) x6_2).f4⟩ : S84)]) := ⟨_, rfl⟩
            replace H : (mandrellaw11_giveCode.l1 k2 x4_1 (wrap64 (x6_2 + 1)) a0_0 a0_1 a0_2 l0_3 a0_0 a0_1 a0_2 x380003_1 y386 ((rd_T80 l0_3 x4_1).f1) ((rd_T80 l0_3 x4_1).f2)) = some (r1, r2, r3, r4) := by first | (rw [hy386]; with_reducible exact H) | (have H2_ := (Option.bind_some _ _).symm.trans H; rw [hy386]; with_reducible exact H2_) | (have H2_ := (Option.bind_some _ _).symm.trans H; with_reducible exact H2_) | with_reducible exact H | (rw [hy386]; exact H) | exact H
            have Ny386 := Aside0.mk hy386
            clear hy386
            have H' := Aside0.mk H
            clear H
            have hnb25 := NB377_378.out
            have hnc25 := NB378_377.out
            have hnb26 := NB377_379.out
            have hnc26 := NB379_377.out
            have hnb27 := NB377_382.out
            have hnc27 := NB382_377.out
            have ⟨hcz28_0, hcz28_1, hcz28_2, hcz28_3, hfz28_0, hfz28_1, hfz28_2, hfz28_3⟩ := blk4 BK377.out
            have p383 : 0 ≤ (x4_1 : Int) := of_decide_eq_true Q4
            have q383 : x4_1 < (l0_3.length : Int) := of_decide_eq_true Q4
            obtain ⟨ad383, A383_0, c383_0, A383_1, c383_1, e383, hx383_0, hx383_1, hx383_2, hl383_0, hi383_0, hl383_1, hi383_1⟩ := at_T80 (Kd.V_reads' HO_378003.out).2.2 x4_1 p383 q383
            obtain rfl : ad380 = ad383 := (by injection e383)
            obtain ⟨ce383, hce383, hMe383, hcc383⟩ := Kd.V_get HO_378003.out z80 x4_1 p383 Q181
            obtain ⟨ua383_0, uc383_0, ua383_1, uc383_1, rfl, ul383_0, ge383_0, ul383_1, ge383_1⟩ := k80_openF hMe383
            have hv383_0 := hcc383 0 _ rfl
            rw [Nat.add_zero] at hv383_0
            replace hv383_0 := Option.some.inj (hv383_0.symm.trans hx383_0)
            injection hv383_0 with hva_ hvn_ hvc_
            rw [hva_] at ge383_0
            rw [hvc_] at ul383_0
            have HL383_0 := Aside0.mk (show Kd.V k83 83 _ w.heap.size _ _ ((rd_T80 l0_3 x4_1).f0) from Kd.V_mk ul383_0 ge383_0)
            clear hva_ hvn_ hvc_ ge383_0 ul383_0
            have hv383_1 := hcc383 1 _ rfl
            rw [add_field _ _ 1 Q20] at hv383_1
            replace hv383_1 := Option.some.inj (hv383_1.symm.trans hx383_1)
            injection hv383_1 with hva_ hvn_ hvc_
            rw [hva_] at ge383_1
            rw [hvc_] at ul383_1
            have HL383_1 := Aside0.mk (show Kd.V (Kd.int .i64) 3 _ w.heap.size _ _ ((rd_T80 l0_3 x4_1).f1) from Kd.V_mk ul383_1 ge383_1)
            clear hva_ hvn_ hvc_ ge383_1 ul383_1
            clear hcc383 hce383
            have HR383_0 := Aside0.mk hi383_0
            have HC383_0 := Aside0.mk hl383_0
            clear hi383_0 hl383_0
            have HR383_1 := Aside0.mk hi383_1
            have HC383_1 := Aside0.mk hl383_1
            clear hi383_1 hl383_1
            replace p383 := eq_true p383
            replace q383 := eq_true q383
            try go_wp2
            have n0_ := Aside0.mk (Kd.V_drew HO_378003.out)
            have n1_ := Aside0.mk (Kd.N_drew HO_380003.out)
            have n2_ := Aside0.mk (Kd.N_drew HO_383000.out)
            have n3_ := Aside0.mk (Kd.V_drew HO_383001.out)
            have n4_ := Aside0.mk (Kd.V_drew HL383_0.out)
            have n5_ := Aside0.mk (Kd.V_drew HL383_1.out)
            have n6_ := Aside0.mk (blk_drew BK377.out)
            have n7_ := Aside0.mk (blk_drew BK378.out)
            have n8_ := Aside0.mk (blk_drew BK379.out)
            have n9_ := Aside0.mk (blk_drew BK382.out)
            have n10_ := Aside0.mk (Kd.C_drew HR383_0.out)
            have n11_ := Aside0.mk (Kd.C_drew HR383_1.out)
            have n12_ := Aside0.mk (below_drew1 HB.out)
            clear HO_378003
            clear HO_380003
            clear HO_383000
            clear HO_383001
            clear HL383_0
            clear HL383_1
            clear BK377
            clear BK378
            clear BK379
            clear BK382
            clear HR383_0
            clear HR383_1
            clear HB
            have HO_378003 := n0_
            have HO_380003 := n1_
            have HO_383000 := n2_
            have HO_383001 := n3_
            have HL383_0 := n4_
            have HL383_1 := n5_
            have BK377 := n6_
            have BK378 := n7_
            have BK379 := n8_
            have BK382 := n9_
            have HR383_0 := n10_
            have HR383_1 := n11_
            have HB := n12_
            clear n0_ n1_ n2_ n3_ n4_ n5_ n6_ n7_ n8_ n9_ n10_ n11_ n12_
            have p384 : 0 ≤ (x4_1 : Int) := of_decide_eq_true Q4
            have q384 : x4_1 < (l0_3.length : Int) := of_decide_eq_true Q4
            obtain ⟨ad384, A384_0, c384_0, A384_1, c384_1, e384, hx384_0, hx384_1, hx384_2, hl384_0, hi384_0, hl384_1, hi384_1⟩ := at_T80 (Kd.V_reads' HO_378003.out).2.2 x4_1 p384 q384
            obtain rfl : ad380 = ad384 := (by injection e384)
            obtain ⟨ce384, hce384, hMe384, hcc384⟩ := Kd.V_get HO_378003.out z80 x4_1 p384 (by first | exact q384 | exact of_decide_eq_true Q4 | (have e_ := (Kd.V_reads' HO_378003.out).1; omega))
            obtain ⟨ua384_0, uc384_0, ua384_1, uc384_1, rfl, ul384_0, ge384_0, ul384_1, ge384_1⟩ := k80_openF hMe384
            have hv384_0 := hcc384 0 _ rfl
            rw [Nat.add_zero] at hv384_0
            replace hv384_0 := Option.some.inj (hv384_0.symm.trans hx384_0)
            injection hv384_0 with hva_ hvn_ hvc_
            rw [hva_] at ge384_0
            rw [hvc_] at ul384_0
            have HL384_0 := Aside0.mk (show Kd.V k83 83 _ w.heap.size _ _ ((rd_T80 l0_3 x4_1).f0) from Kd.V_mk ul384_0 ge384_0)
            clear hva_ hvn_ hvc_ ge384_0 ul384_0
            have hv384_1 := hcc384 1 _ rfl
            rw [add_field _ _ 1 Q20] at hv384_1
            replace hv384_1 := Option.some.inj (hv384_1.symm.trans hx384_1)
            injection hv384_1 with hva_ hvn_ hvc_
            rw [hva_] at ge384_1
            rw [hvc_] at ul384_1
            have HL384_1 := Aside0.mk (show Kd.V (Kd.int .i64) 3 _ w.heap.size _ _ ((rd_T80 l0_3 x4_1).f1) from Kd.V_mk ul384_1 ge384_1)
            clear hva_ hvn_ hvc_ ge384_1 ul384_1
            clear hcc384 hce384
            have HR384_0 := Aside0.mk hi384_0
            have HC384_0 := Aside0.mk hl384_0
            clear hi384_0 hl384_0
            have HR384_1 := Aside0.mk hi384_1
            have HC384_1 := Aside0.mk hl384_1
            clear hi384_1 hl384_1
            replace p384 := eq_true p384
            replace q384 := eq_true q384
            have p385 : 0 ≤ (x6_2 : Int) := of_decide_eq_true Q4
            have q385 : x6_2 < (((rd_T80 l0_3 x4_1).f0).length : Int) := of_decide_eq_true Q4
            obtain ⟨ad385, A385_2, c385_2, e385, hx385_0, hx385_1, hx385_2, hx385_3, hx385_4, hl385_2, hi385_2⟩ := at_T83 (by repeat (first | (with_reducible exact HR384_0.out) | (with_reducible refine Kd.C_alloc ?_ _) | (with_reducible refine Kd.C_drewN ?_ _) | (with_reducible refine Kd.C_drew ?_) | exact HR384_0.out)) x6_2 p385 q385
            cases e385
            obtain ⟨ce385, hce385, hMe385, hcc385⟩ := Kd.V_get HL384_0.out z83 x6_2 p385 (by first | exact q385 | exact of_decide_eq_true Q4 | (have e_ := (Kd.V_reads' HL384_0.out).1; omega))
            obtain ⟨ua385_2, uc385_2, rfl, ul385_2, ge385_2⟩ := k83_openF hMe385
            have hv385_2 := hcc385 2 _ rfl
            rw [add_field _ _ 2 Q20] at hv385_2
            replace hv385_2 := Option.some.inj (hv385_2.symm.trans hx385_2)
            injection hv385_2 with hva_ hvn_ hvc_
            rw [hva_] at ge385_2
            rw [hvc_] at ul385_2
            have HL385_2 := Aside0.mk (show Kd.V (Kd.int .i64) 3 _ w.heap.size _ _ ((rd_T83 ((rd_T80 l0_3 x4_1).f0) x6_2).f2) from Kd.V_mk ul385_2 ge385_2)
            clear hva_ hvn_ hvc_ ge385_2 ul385_2
            clear hcc385 hce385
            have HR385_2 := Aside0.mk hi385_2
            have HC385_2 := Aside0.mk hl385_2
            clear hi385_2 hl385_2
            replace p385 := eq_true p385
            replace q385 := eq_true q385
            refine start_ (n := 15) (S := fun w' => w'.cell? ⟨gb382, 0, none⟩ = some (u383000) ∧ w'.cell? ⟨gb382, 1, none⟩ = some (.slice A380_1 ((rd_T80 l0_3 x4_1).f1).length c380_1) ∧ w'.cell? ⟨gb382, 2, none⟩ = some (.int .i64 ((rd_T80 l0_3 x4_1).f2)) ∧ w'.cell? ⟨gb377, 0, none⟩ = some (.int .i64 a0_0) ∧ w'.cell? ⟨gb377, 1, none⟩ = some (.int .i64 a0_1) ∧ w'.cell? ⟨gb377, 2, none⟩ = some (.bool a0_2) ∧ w'.cell? ⟨gb377, 3, none⟩ = some (.slice (some ad380) l0_3.length c0_3) ∧ w'.cell? (ad380.add ((x4_1).toNat * 3)) = some (.slice (some ad385) ((rd_T80 l0_3 x4_1).f0).length c384_0) ∧ w'.cell? ⟨(ad380.add ((x4_1).toNat * 3)).block, (ad380.add ((x4_1).toNat * 3)).off + 1, none⟩ = some (.slice A384_1 ((rd_T80 l0_3 x4_1).f1).length c384_1) ∧ w'.cell? ⟨(ad380.add ((x4_1).toNat * 3)).block, (ad380.add ((x4_1).toNat * 3)).off + 2, none⟩ = some (.int .i64 ((rd_T80 l0_3 x4_1).f2)) ∧ w'.cell? (ad385.add ((x6_2).toNat * 5)) = some (.int .u8 ((rd_T83 ((rd_T80 l0_3 x4_1).f0) x6_2).f0)) ∧ w'.cell? ⟨(ad385.add ((x6_2).toNat * 5)).block, (ad385.add ((x6_2).toNat * 5)).off + 1, none⟩ = some (.int .i64 ((rd_T83 ((rd_T80 l0_3 x4_1).f0) x6_2).f1)) ∧ w'.cell? ⟨(ad385.add ((x6_2).toNat * 5)).block, (ad385.add ((x6_2).toNat * 5)).off + 2, none⟩ = some (.slice A385_2 ((rd_T83 ((rd_T80 l0_3 x4_1).f0) x6_2).f2).length c385_2) ∧ w'.cell? ⟨(ad385.add ((x6_2).toNat * 5)).block, (ad385.add ((x6_2).toNat * 5)).off + 3, none⟩ = some (.int .i64 ((rd_T83 ((rd_T80 l0_3 x4_1).f0) x6_2).f3)) ∧ w'.cell? ⟨(ad385.add ((x6_2).toNat * 5)).block, (ad385.add ((x6_2).toNat * 5)).off + 4, none⟩ = some (.int .u32 ((rd_T83 ((rd_T80 l0_3 x4_1).f0) x6_2).f4))) (ds := [12, 14]) #[false, false, false, false, false, false, false, false, false, false, false, false, false, false, false] Q0 rfl rfl ⟨(blk_cell BK382.out 0).trans rfl, (blk_cell BK382.out 1).trans rfl, (blk_cell BK382.out 2).trans rfl, (blk_cell BK377.out 0).trans rfl, (blk_cell BK377.out 1).trans rfl, (blk_cell BK377.out 2).trans rfl, (blk_cell BK377.out 3).trans rfl, hx384_0, hx384_1, hx384_2, hx385_0, hx385_1, hx385_2, hx385_3, hx385_4⟩ (fun hHeld => ?_); refine with_tabW mandrellaw11_giveCode.tab9 mandrellaw11_giveCode.bits9 (fun HT_ HW_ => ?_)
            generalize wr.drew = w29 at HO_378003 HO_380003 HO_383000 HO_383001 HL383_0 HL383_1 BK377 BK378 BK379 BK382 HR383_0 HR383_1 HB HL384_0 HL384_1 HL385_2 HR384_0 HR384_1 HR385_2 hx384_0 hx384_1 hx384_2 hx385_0 hx385_1 hx385_2 hx385_3 hx385_4 hHeld ⊢
            refine pure_ (i := 0) (N := some 45) (bv 15 1) rfl rfl Q152 (fun _ _ _ h => h) Q153 Q5 ?_
            refine pure_ (i := 2) (N := some 47) (bv 15 5) rfl rfl Q152 (fun _ _ _ h => h) Q153 Q5 ?_
            refine pure_ (i := 4) (N := some 49) (bv 15 21) rfl rfl Q152 (fun _ _ _ h => h) Q153 Q5 ?_
            refine pure_ (i := 8) (N := some 53) (bv 15 277) rfl rfl Q152 (fun _ _ _ h => h) Q153 Q5 ?_
            refine take_ (i := 1) (N := some 46) (bv 15 279) rfl rfl Q156 (fun _ _ _ h => h) Q173 hHeld Q5 ?_
            refine take_ (i := 3) (N := some 48) (bv 15 287) rfl rfl Q156 (fun _ _ _ h => h) Q173 hHeld Q5 ?_
            refine pure_ (i := 5) (N := some 50) (bv 15 319) rfl rfl Q152 (fun _ _ _ h => h) Q153 Q5 ?_
            refine pure_ (i := 6) (N := some 51) (bv 15 383) rfl rfl Q152 (fun _ _ _ h => h) Q153 Q5 ?_
            refine take_ (i := 7) (N := some 52) (bv 15 511) rfl rfl Q156 (fun _ _ _ h => h) Q173 hHeld Q5 ?_
            refine pure_ (i := 9) (N := some 54) (bv 15 1023) rfl rfl Q152 (fun _ _ _ h => h) Q153 Q5 ?_
            refine take_ (i := 10) (N := some 55) (bv 15 2047) rfl rfl Q156 (fun _ _ _ h => h) Q173 hHeld Q5 ?_
            refine one_ (i := 11) (N := some 56) #[true, true, true, true, true, true, true, true, true, true, true, true, false, false, false] rfl rfl (one_of HT_.out Q0) Q12 (fun K hK => ?_)
            refine value_ (w1 := ?_) (v := ?_) Q2 rfl ?_ ?_
            rotate_left 2
            ·go_simp
             constructor
             ·rfl
             rfl
            refine hK.out _ _ ⟨(blk_cell (blk_alloc BK382.out _) 0).trans rfl, (blk_cell (blk_alloc BK382.out _) 1).trans rfl, (blk_cell (blk_alloc BK382.out _) 2).trans rfl, (blk_cell (blk_alloc BK377.out _) 0).trans rfl, (blk_cell (blk_alloc BK377.out _) 1).trans rfl, (blk_cell (blk_alloc BK377.out _) 2).trans rfl, (blk_cell (blk_alloc BK377.out _) 3).trans rfl, (World.cell?_alloc_lt _ _ _ (World.block_lt_of_cell? _ _ (hHeld.2.2.2.2.2.2.2.1))).trans (hHeld.2.2.2.2.2.2.2.1), (World.cell?_alloc_lt _ _ _ (World.block_lt_of_cell? _ _ (hHeld.2.2.2.2.2.2.2.2.1))).trans (hHeld.2.2.2.2.2.2.2.2.1), (World.cell?_alloc_lt _ _ _ (World.block_lt_of_cell? _ _ (hHeld.2.2.2.2.2.2.2.2.2.1))).trans (hHeld.2.2.2.2.2.2.2.2.2.1), (World.cell?_alloc_lt _ _ _ (World.block_lt_of_cell? _ _ (hHeld.2.2.2.2.2.2.2.2.2.2.1))).trans (hHeld.2.2.2.2.2.2.2.2.2.2.1), (World.cell?_alloc_lt _ _ _ (World.block_lt_of_cell? _ _ (hHeld.2.2.2.2.2.2.2.2.2.2.2.1))).trans (hHeld.2.2.2.2.2.2.2.2.2.2.2.1), (World.cell?_alloc_lt _ _ _ (World.block_lt_of_cell? _ _ (hHeld.2.2.2.2.2.2.2.2.2.2.2.2.1))).trans (hHeld.2.2.2.2.2.2.2.2.2.2.2.2.1), (World.cell?_alloc_lt _ _ _ (World.block_lt_of_cell? _ _ (hHeld.2.2.2.2.2.2.2.2.2.2.2.2.2.1))).trans (hHeld.2.2.2.2.2.2.2.2.2.2.2.2.2.1), (World.cell?_alloc_lt _ _ _ (World.block_lt_of_cell? _ _ (hHeld.2.2.2.2.2.2.2.2.2.2.2.2.2.2))).trans (hHeld.2.2.2.2.2.2.2.2.2.2.2.2.2.2)⟩ (fun hHeld => ?_)
            clear hK K
            refine norm_ (a' := ?_) ?_ ?_
            rotate_left
            ·show Act.put _ (some 56) _ = _
             simp only [Act.put, List.setIfInBounds_toArray, List.set_cons_zero, List.set_cons_succ, i64_w, i32_w]
             rfl
            refine last_ (i := 12) (N := some 57) #[true, true, true, true, true, true, true, true, true, true, true, true, true, false, false] rfl rfl (one_of HT_.out Q0) Q12 (fun K hK => ?_)
            refine Kd.N_append_step k84 (w0 := w) w.heap.size Q2 (.tmp 46) (.tmp 56) 85 84 (.agg #[(.int .u8 0), (.int .i64 0), (.slice none 0 0), (.int .i64 0), (.int .u32 0)]) 56 rfl Tryz.underlying85 info84 rfl Q12 Q20 u383000 x383000_2 (⟨(rd_T83 ((rd_T80 l0_3 x4_1).f0) x6_2).f0, (rd_T83 ((rd_T80 l0_3 x4_1).f0) x6_2).f1, (rd_T83 ((rd_T80 l0_3 x4_1).f0) x6_2).f2, (rd_T83 ((rd_T80 l0_3 x4_1).f0) x6_2).f3, (rd_T83 ((rd_T80 l0_3 x4_1).f0) x6_2).f4⟩ : S84) [.int .u8 ((rd_T83 ((rd_T80 l0_3 x4_1).f0) x6_2).f0), .int .i64 ((rd_T83 ((rd_T80 l0_3 x4_1).f0) x6_2).f1), .slice A385_2 ((rd_T83 ((rd_T80 l0_3 x4_1).f0) x6_2).f2).length c385_2, .int .i64 ((rd_T83 ((rd_T80 l0_3 x4_1).f0) x6_2).f3), .int .u32 ((rd_T83 ((rd_T80 l0_3 x4_1).f0) x6_2).f4)] (fun k_ => (P0_3_ k_ ∨ w.heap.size ≤ k_) ∧ some k_ ≠ (u380003 : Value).ownBlock ∧ k_ ≠ gb377 ∧ k_ ≠ gb378 ∧ k_ ≠ gb379 ∧ k_ ≠ gb382) (fun k_ => ((fun k_ => (P0_3_ k_ ∨ w.heap.size ≤ k_) ∧ some k_ ≠ (u380003 : Value).ownBlock ∧ k_ ≠ gb377 ∧ k_ ≠ gb378 ∧ k_ ≠ gb379 ∧ k_ ≠ gb382)) k_ ∧ some k_ ≠ (u383000 : Value).ownBlock) rfl rfl ?aP (fun _ hk => hk) ?aF ?aO ?aB ?aS ?aL ?_
            (case aP => exact (k84_mkF _ _ (⟨(rd_T83 ((rd_T80 l0_3 x4_1).f0) x6_2).f0, (rd_T83 ((rd_T80 l0_3 x4_1).f0) x6_2).f1, (rd_T83 ((rd_T80 l0_3 x4_1).f0) x6_2).f2, (rd_T83 ((rd_T80 l0_3 x4_1).f0) x6_2).f3, (rd_T83 ((rd_T80 l0_3 x4_1).f0) x6_2).f4⟩ : S84) (Kd.V_reads' (Kd.V_mono (ok' := (fun k_ => ((fun k_ => (P0_3_ k_ ∨ w.heap.size ≤ k_) ∧ some k_ ≠ (u380003 : Value).ownBlock ∧ k_ ≠ gb377 ∧ k_ ≠ gb378 ∧ k_ ≠ gb379 ∧ k_ ≠ gb382)) k_ ∧ some k_ ≠ (u383000 : Value).ownBlock)) (HL385_2.out) (fun k_ hk => ⟨⟨hk.1, ⟨hk.2.1, ⟨hk.2.2.2.1, ⟨hk.2.2.2.2.1, ⟨hk.2.2.2.2.2.1, hk.2.2.2.2.2.2⟩⟩⟩⟩⟩, hk.2.2.1⟩))).2.1 (Kd.V_F (Kd.V_mono (ok' := (fun k_ => ((fun k_ => (P0_3_ k_ ∨ w.heap.size ≤ k_) ∧ some k_ ≠ (u380003 : Value).ownBlock ∧ k_ ≠ gb377 ∧ k_ ≠ gb378 ∧ k_ ≠ gb379 ∧ k_ ≠ gb382)) k_ ∧ some k_ ≠ (u383000 : Value).ownBlock)) (HL385_2.out) (fun k_ hk => ⟨⟨hk.1, ⟨hk.2.1, ⟨hk.2.2.2.1, ⟨hk.2.2.2.2.1, ⟨hk.2.2.2.2.2.1, hk.2.2.2.2.2.2⟩⟩⟩⟩⟩, hk.2.2.1⟩)))))
            (case aB => exact Q51)
            (case aF => exact (fun k_ hk => ⟨(.inr (Nat.le_trans (below_size Q51) hk)), Kd.fresh' (Kd.N_lt Q130) k_ hk, Kd.freshB (g := gb377) (o := .cells #[.int .i64 a0_0, .int .i64 a0_1, .bool a0_2, .slice (some ad380) l0_3.length c0_3] 24 (0, 0)) Q39 k_ hk, Kd.freshB (g := gb378) (o := .cells #[.int .i64 0, .int .i64 0, .bool false, .slice none 0 0] 35 (0, 0)) Q48 k_ hk, Kd.freshB (g := gb379) (o := .cells #[.int .i64 a0_0, .int .i64 a0_1, .bool a0_2, u380003] 35 (0, 0)) Q57 k_ hk, Kd.freshB (g := gb382) (o := .cells #[u383000, .slice A380_1 ((rd_T80 l0_3 x4_1).f1).length c380_1, .int .i64 ((rd_T80 l0_3 x4_1).f2)] 87 (0, 0)) Q79 k_ hk⟩))
            (case aO => exact (by (with_reducible repeat (first | apply Kd.N_alloc | apply Kd.N_drewN | apply Kd.N_drew)); exact HO_383000.out))
            (case aS => exact (below_size Q51))
            (case aL => have := LMc24.out; omega)
            intro v387 w30 ho hb hg hat
            rw [← Ny386.out] at ho
            have n0_ := Aside0.mk (Kd.V_afterv (ok := (fun k_ => (P0_3_ k_ ∨ w.heap.size ≤ k_) ∧ some k_ ≠ (u380003 : Value).ownBlock ∧ k_ ≠ gb377 ∧ k_ ≠ gb378 ∧ k_ ≠ gb379 ∧ k_ ≠ gb382)) (by (with_reducible repeat (first | apply Kd.V_alloc | apply Kd.V_drewN | apply Kd.V_drew)); exact Kd.V_mono HO_378003.out (fun _ hk => ⟨⟨hk.1, ⟨hk.2.1, ⟨hk.2.2.2.1, ⟨hk.2.2.2.2.1, ⟨hk.2.2.2.2.2.1, hk.2.2.2.2.2.2⟩⟩⟩⟩⟩, hk.2.2.1⟩)) hg hat)
            have n1_ := Aside0.mk (Kd.N_afterv (ok := (fun k_ => (P0_3_ k_ ∨ w.heap.size ≤ k_) ∧ k_ ≠ gb377 ∧ k_ ≠ gb378 ∧ k_ ≠ gb379 ∧ k_ ≠ gb382)) (by (with_reducible repeat (first | apply Kd.N_alloc | apply Kd.N_drewN | apply Kd.N_drew)); exact Kd.N_mono HO_380003.out (fun _ hk => ⟨⟨hk.1, ⟨hk.2.2.1, ⟨hk.2.2.2.1, ⟨hk.2.2.2.2.1, hk.2.2.2.2.2⟩⟩⟩⟩, hk.2.1⟩)) hg hat)
            have n2_ := Aside0.mk (Kd.V_afterv (ok := (fun k_ => (P0_3_ k_ ∨ w.heap.size ≤ k_) ∧ some k_ ≠ (u380003 : Value).ownBlock ∧ k_ ≠ gb377 ∧ k_ ≠ gb378 ∧ k_ ≠ gb379 ∧ k_ ≠ gb382)) (by (with_reducible repeat (first | apply Kd.V_alloc | apply Kd.V_drewN | apply Kd.V_drew)); exact Kd.V_mono HO_383001.out (fun _ hk => ⟨⟨hk.1, ⟨hk.2.1, ⟨hk.2.2.2.1, ⟨hk.2.2.2.2.1, ⟨hk.2.2.2.2.2.1, hk.2.2.2.2.2.2⟩⟩⟩⟩⟩, hk.2.2.1⟩)) hg hat)
            have n3_ := Aside0.mk (blk_grown (g := gb377) (o := .cells #[.int .i64 a0_0, .int .i64 a0_1, .bool a0_2, .slice (some ad380) l0_3.length c0_3] 24 (0, 0)) Q39 hg (Kd.N_ne HO_383000.out BK377.out Q12))
            have n4_ := Aside0.mk (blk_grown (g := gb378) (o := .cells #[.int .i64 0, .int .i64 0, .bool false, .slice none 0 0] 35 (0, 0)) Q48 hg (Kd.N_ne HO_383000.out BK378.out Q12))
            have n5_ := Aside0.mk (blk_grown (g := gb379) (o := .cells #[.int .i64 a0_0, .int .i64 a0_1, .bool a0_2, u380003] 35 (0, 0)) Q57 hg (Kd.N_ne HO_383000.out BK379.out Q12))
            have n6_ := Aside0.mk (blk_grown (g := gb382) (o := .cells #[u383000, .slice A380_1 ((rd_T80 l0_3 x4_1).f1).length c380_1, .int .i64 ((rd_T80 l0_3 x4_1).f2)] 87 (0, 0)) Q79 hg (Kd.N_ne HO_383000.out BK382.out Q12))
            have n7_ := Aside0.mk (Kd.V_afterv (ok := (fun k_ => (P0_3_ k_ ∨ w.heap.size ≤ k_) ∧ some k_ ≠ (u380003 : Value).ownBlock ∧ k_ ≠ gb377 ∧ k_ ≠ gb378 ∧ k_ ≠ gb379 ∧ k_ ≠ gb382)) (by (with_reducible repeat (first | apply Kd.V_alloc | apply Kd.V_drewN | apply Kd.V_drew)); exact Kd.V_mono HL383_0.out (fun _ hk => ⟨⟨hk.1, ⟨hk.2.1, ⟨hk.2.2.2.1, ⟨hk.2.2.2.2.1, ⟨hk.2.2.2.2.2.1, hk.2.2.2.2.2.2⟩⟩⟩⟩⟩, hk.2.2.1⟩)) hg hat)
            have n8_ := Aside0.mk (Kd.V_afterv (ok := (fun k_ => (P0_3_ k_ ∨ w.heap.size ≤ k_) ∧ some k_ ≠ (u380003 : Value).ownBlock ∧ k_ ≠ gb377 ∧ k_ ≠ gb378 ∧ k_ ≠ gb379 ∧ k_ ≠ gb382)) (by (with_reducible repeat (first | apply Kd.V_alloc | apply Kd.V_drewN | apply Kd.V_drew)); exact Kd.V_mono HL383_1.out (fun _ hk => ⟨⟨hk.1, ⟨hk.2.1, ⟨hk.2.2.2.1, ⟨hk.2.2.2.2.1, ⟨hk.2.2.2.2.2.1, hk.2.2.2.2.2.2⟩⟩⟩⟩⟩, hk.2.2.1⟩)) hg hat)
            have n9_ := Aside0.mk (Kd.V_afterv (ok := (fun k_ => (P0_3_ k_ ∨ w.heap.size ≤ k_) ∧ some k_ ≠ (u380003 : Value).ownBlock ∧ k_ ≠ gb377 ∧ k_ ≠ gb378 ∧ k_ ≠ gb379 ∧ k_ ≠ gb382)) (by (with_reducible repeat (first | apply Kd.V_alloc | apply Kd.V_drewN | apply Kd.V_drew)); exact Kd.V_mono HL384_0.out (fun _ hk => ⟨⟨hk.1, ⟨hk.2.1, ⟨hk.2.2.2.1, ⟨hk.2.2.2.2.1, ⟨hk.2.2.2.2.2.1, hk.2.2.2.2.2.2⟩⟩⟩⟩⟩, hk.2.2.1⟩)) hg hat)
            have n10_ := Aside0.mk (Kd.V_afterv (ok := (fun k_ => (P0_3_ k_ ∨ w.heap.size ≤ k_) ∧ some k_ ≠ (u380003 : Value).ownBlock ∧ k_ ≠ gb377 ∧ k_ ≠ gb378 ∧ k_ ≠ gb379 ∧ k_ ≠ gb382)) (by (with_reducible repeat (first | apply Kd.V_alloc | apply Kd.V_drewN | apply Kd.V_drew)); exact Kd.V_mono HL384_1.out (fun _ hk => ⟨⟨hk.1, ⟨hk.2.1, ⟨hk.2.2.2.1, ⟨hk.2.2.2.2.1, ⟨hk.2.2.2.2.2.1, hk.2.2.2.2.2.2⟩⟩⟩⟩⟩, hk.2.2.1⟩)) hg hat)
            have n11_ := Aside0.mk (Kd.V_afterv (ok := (fun k_ => (P0_3_ k_ ∨ w.heap.size ≤ k_) ∧ some k_ ≠ (u380003 : Value).ownBlock ∧ k_ ≠ gb377 ∧ k_ ≠ gb378 ∧ k_ ≠ gb379 ∧ k_ ≠ gb382)) (by (with_reducible repeat (first | apply Kd.V_alloc | apply Kd.V_drewN | apply Kd.V_drew)); exact Kd.V_mono HL385_2.out (fun _ hk => ⟨⟨hk.1, ⟨hk.2.1, ⟨hk.2.2.2.1, ⟨hk.2.2.2.2.1, ⟨hk.2.2.2.2.2.1, hk.2.2.2.2.2.2⟩⟩⟩⟩⟩, hk.2.2.1⟩)) hg hat)
            have n12_ := Aside0.mk (hb)
            have n13_ := Aside0.mk (ho)
            clear HO_378003
            clear HO_380003
            clear HO_383001
            clear BK377
            clear BK378
            clear BK379
            clear BK382
            clear HL383_0
            clear HL383_1
            clear HL384_0
            clear HL384_1
            clear HL385_2
            clear HB
            clear HO_383000
            have HO_378003 := n0_
            have HO_380003 := n1_
            have HO_383001 := n2_
            have BK377 := n3_
            have BK378 := n4_
            have BK379 := n5_
            have BK382 := n6_
            have HL383_0 := n7_
            have HL383_1 := n8_
            have HL384_0 := n9_
            have HL384_1 := n10_
            have HL385_2 := n11_
            have HB := n12_
            have HO388 := n13_
            clear n0_ n1_ n2_ n3_ n4_ n5_ n6_ n7_ n8_ n9_ n10_ n11_ n12_ n13_
            clear ho hb hg hat
            obtain ⟨Ao31, co31, eo31⟩ := Kd.N_slice HO388.out
            (first | subst eo31 | (injection eo31 with f1_ f2_ f3_; have f4_ := f1_.symm; have f5_ := f3_.symm; clear f1_ f2_ f3_; subst f4_; subst f5_))
            refine hK.out _ _ ?_
            clear hK K
            refine norm_ (a' := ?_) ?_ ?_
            rotate_left
            ·show Act.put _ (some 57) _ = _
             simp only [Act.put, List.setIfInBounds_toArray, List.set_cons_zero, List.set_cons_succ, i64_w, i32_w]
             rfl
            refine pure_ (i := 13) (N := some 58) (bv 15 16383) rfl rfl Q152 (fun _ _ _ h => h) Q153 Q5 ?_
            refine last_ (i := 14) (N := none) #[true, true, true, true, true, true, true, true, true, true, true, true, true, true, true] rfl rfl (one_of HT_.out Q0) Q12 (fun K hK => ?_)
            have hs32 : w30.cell? ⟨gb382, 0, none⟩ = some (u383000) := (blk_cell BK382.out 0).trans rfl
            have hfs32 := blk_frozen BK382.out 0
            have hns32_0 := NB377_382.out
            have hns32_1 := NB378_382.out
            have hns32_2 := NB379_382.out
            have hms32_0 := NB382_377.out
            have hms32_1 := NB382_378.out
            have hms32_2 := NB382_379.out
            refine skip_ (w1 := ?_) Q2 rfl ?_ ?_
            rotate_left
            ·go_simp
             rfl
            refine hK.out _ _ ?_
            clear hK K
            refine done_ (done_of HT_.out Q0) ?_
            try go_wp2
            go_roundg k2
            case measure => have := HK1.out; have := HK2.out; omega
            case rel => exact ⟨(wrap64 (x6_2 + 1)), (y386), (.slice Ao31 y386.length co31), Q3, H', ⟨by have := HK1.out; have := HK2.out; omega⟩, ⟨by (with_reducible repeat (first | apply Kd.V_alloc | apply Kd.V_drewN | apply Kd.V_drew)); exact Kd.V_mono (Kd.V_far (p := ⟨gb382, 0, none⟩) (Kd.V_mono HO_378003.out (fun k_ hk => (⟨hk, hk.1.2.2.2.2.2⟩ : _ ∧ k_ ≠ gb382))) (fun _ hk => hk.2) (.slice Ao31 y386.length co31)) (fun _ hk => ⟨hk.1.1.1, ⟨hk.1.1.2.1, ⟨hk.1.2, ⟨hk.1.1.2.2.1, ⟨hk.1.1.2.2.2.1, ⟨hk.1.1.2.2.2.2.1, hk.1.1.2.2.2.2.2⟩⟩⟩⟩⟩⟩)⟩, ⟨by (with_reducible repeat (first | apply Kd.N_alloc | apply Kd.N_drewN | apply Kd.N_drew)); exact Kd.N_mono (Kd.N_far (p := ⟨gb382, 0, none⟩) (Kd.N_mono HO_380003.out (fun k_ hk => (⟨hk, hk.1.2.2.2.2⟩ : _ ∧ k_ ≠ gb382))) (fun _ hk => hk.2) (.slice Ao31 y386.length co31)) (fun _ hk => ⟨hk.1.1.1, ⟨hk.1.2, ⟨hk.1.1.2.1, ⟨hk.1.1.2.2.1, ⟨hk.1.1.2.2.2.1, hk.1.1.2.2.2.2⟩⟩⟩⟩⟩)⟩, ⟨by (with_reducible repeat (first | apply Kd.N_alloc | apply Kd.N_drewN | apply Kd.N_drew)); exact Kd.N_mono (Kd.N_far (p := ⟨gb382, 0, none⟩) (Kd.N_mono HO388.out (fun k_ hk => (⟨hk, hk.2.2.2.2.2⟩ : _ ∧ k_ ≠ gb382))) (fun _ hk => hk.2) (.slice Ao31 y386.length co31)) (fun _ hk => ⟨hk.1.1, ⟨hk.1.2.1, ⟨hk.1.2.2.1, ⟨hk.1.2.2.2.1, ⟨hk.1.2.2.2.2.1, hk.1.2.2.2.2.2⟩⟩⟩⟩⟩)⟩, ⟨by (with_reducible repeat (first | apply Kd.V_alloc | apply Kd.V_drewN | apply Kd.V_drew)); exact Kd.V_mono (Kd.V_far (p := ⟨gb382, 0, none⟩) (Kd.V_mono HO_383001.out (fun k_ hk => (⟨hk, hk.1.2.2.2.2.2⟩ : _ ∧ k_ ≠ gb382))) (fun _ hk => hk.2) (.slice Ao31 y386.length co31)) (fun _ hk => ⟨hk.1.1.1, ⟨hk.1.1.2.1, ⟨hk.1.2, ⟨hk.1.1.2.2.1, ⟨hk.1.1.2.2.2.1, ⟨hk.1.1.2.2.2.2.1, hk.1.1.2.2.2.2.2⟩⟩⟩⟩⟩⟩)⟩, ⟨by (with_reducible repeat (first | refine blk_drewN ?_ _ | refine blk_drew ?_ | refine blk_alloc ?_ _)); refine blk_far ?_ NB377_382.out _; (with_reducible repeat (first | refine blk_drewN ?_ _ | refine blk_drew ?_ | refine blk_alloc ?_ _)); exact BK377.out⟩, ⟨by (with_reducible repeat (first | refine blk_drewN ?_ _ | refine blk_drew ?_ | refine blk_alloc ?_ _)); refine blk_far ?_ NB378_382.out _; (with_reducible repeat (first | refine blk_drewN ?_ _ | refine blk_drew ?_ | refine blk_alloc ?_ _)); exact BK378.out⟩, ⟨by (with_reducible repeat (first | refine blk_drewN ?_ _ | refine blk_drew ?_ | refine blk_alloc ?_ _)); refine blk_far ?_ NB379_382.out _; (with_reducible repeat (first | refine blk_drewN ?_ _ | refine blk_drew ?_ | refine blk_alloc ?_ _)); exact BK379.out⟩, ⟨by (with_reducible repeat (first | refine blk_drewN ?_ _ | refine blk_drew ?_ | refine blk_alloc ?_ _)); refine blk_put (cs := #[u383000, .slice A380_1 ((rd_T80 l0_3 x4_1).f1).length c380_1, .int .i64 ((rd_T80 l0_3 x4_1).f2)]) ?_ 0 _ rfl; (with_reducible repeat (first | refine blk_drewN ?_ _ | refine blk_drew ?_ | refine blk_alloc ?_ _)); exact BK382.out⟩, ⟨Q51⟩⟩
           rw [if_neg c24] at H
           exact absurd H Q8
          rw [if_neg c23] at H
          exact absurd H Q8
         rw [if_neg c22] at H
         have c22b0 : decide (x6_2 < (((rd_T80 l0_3 x4_1).f0).length : Int)) = false := decide_eq_false c22
         clear c22
         by_cases c33 : x380003_1.length < 2513169434916
         ·rw [if_pos c33] at H
          have LMc33 := Aside0.mk c33
          clear c33
          obtain ⟨y389, hy389⟩ : ∃ y_ : List (S87), y_ = (x380003_1 ++ [(⟨x383000_2, ((rd_T80 l0_3 x4_1).f1), ((rd_T80 l0_3 x4_1).f2)⟩ : S87)]) := ⟨_, rfl⟩
          replace H : (mandrellaw11_giveCode.l0 k2 (wrap64 (x4_1 + 1)) a0_0 a0_1 a0_2 l0_3 a0_0 a0_1 a0_2 y389) = some (r1, r2, r3, r4) := by first | (rw [hy389]; with_reducible exact H) | (have H2_ := (Option.bind_some _ _).symm.trans H; rw [hy389]; with_reducible exact H2_) | (have H2_ := (Option.bind_some _ _).symm.trans H; with_reducible exact H2_) | with_reducible exact H | (rw [hy389]; exact H) | exact H
          have Ny389 := Aside0.mk hy389
          clear hy389
          have H' := Aside0.mk H
          clear H
          have hnb34 := NB377_378.out
          have hnc34 := NB378_377.out
          have hnb35 := NB377_379.out
          have hnc35 := NB379_377.out
          have hnb36 := NB377_382.out
          have hnc36 := NB382_377.out
          have ⟨hcz37_0, hcz37_1, hcz37_2, hcz37_3, hfz37_0, hfz37_1, hfz37_2, hfz37_3⟩ := blk4 BK377.out
          have p383 : 0 ≤ (x4_1 : Int) := of_decide_eq_true Q4
          have q383 : x4_1 < (l0_3.length : Int) := of_decide_eq_true Q4
          obtain ⟨ad383, A383_0, c383_0, A383_1, c383_1, e383, hx383_0, hx383_1, hx383_2, hl383_0, hi383_0, hl383_1, hi383_1⟩ := at_T80 (Kd.V_reads' HO_378003.out).2.2 x4_1 p383 q383
          obtain rfl : ad380 = ad383 := (by injection e383)
          obtain ⟨ce383, hce383, hMe383, hcc383⟩ := Kd.V_get HO_378003.out z80 x4_1 p383 Q181
          obtain ⟨ua383_0, uc383_0, ua383_1, uc383_1, rfl, ul383_0, ge383_0, ul383_1, ge383_1⟩ := k80_openF hMe383
          have hv383_0 := hcc383 0 _ rfl
          rw [Nat.add_zero] at hv383_0
          replace hv383_0 := Option.some.inj (hv383_0.symm.trans hx383_0)
          injection hv383_0 with hva_ hvn_ hvc_
          rw [hva_] at ge383_0
          rw [hvc_] at ul383_0
          have HL383_0 := Aside0.mk (show Kd.V k83 83 _ w.heap.size _ _ ((rd_T80 l0_3 x4_1).f0) from Kd.V_mk ul383_0 ge383_0)
          clear hva_ hvn_ hvc_ ge383_0 ul383_0
          have hv383_1 := hcc383 1 _ rfl
          rw [add_field _ _ 1 Q20] at hv383_1
          replace hv383_1 := Option.some.inj (hv383_1.symm.trans hx383_1)
          injection hv383_1 with hva_ hvn_ hvc_
          rw [hva_] at ge383_1
          rw [hvc_] at ul383_1
          have HL383_1 := Aside0.mk (show Kd.V (Kd.int .i64) 3 _ w.heap.size _ _ ((rd_T80 l0_3 x4_1).f1) from Kd.V_mk ul383_1 ge383_1)
          clear hva_ hvn_ hvc_ ge383_1 ul383_1
          clear hcc383 hce383
          have HR383_0 := Aside0.mk hi383_0
          have HC383_0 := Aside0.mk hl383_0
          clear hi383_0 hl383_0
          have HR383_1 := Aside0.mk hi383_1
          have HC383_1 := Aside0.mk hl383_1
          clear hi383_1 hl383_1
          replace p383 := eq_true p383
          replace q383 := eq_true q383
          have hnb38 := NB379_378.out
          have hnc38 := NB378_379.out
          have hnb39 := NB379_382.out
          have hnc39 := NB382_379.out
          have ⟨hcz40_0, hcz40_1, hcz40_2, hcz40_3, hfz40_0, hfz40_1, hfz40_2, hfz40_3⟩ := blk4 BK379.out
          have hnb41 := NB382_378.out
          have hnc41 := NB378_382.out
          have ⟨hcz42_0, hcz42_1, hcz42_2, hfz42_0, hfz42_1, hfz42_2⟩ := blk3 BK382.out
          obtain ⟨Ao44, co44, eo44⟩ := Kd.N_slice HO_383000.out
          subst eo44
          go_wp2_with (first | ((with_reducible refine gate_builtin (b := .append) (xs := #[.tmp 60, .tmp 62]) rfl ?_); at_builtin; refine Kd.N_append k87 (w0 := w) w.heap.size rfl (.tmp 60) (.tmp 62) 33 87 (.agg #[(.slice none 0 0), (.slice none 0 0), (.int .i64 0)]) 56 rfl Tryz.underlying33 info87 rfl Q12 Q20 u380003 x380003_1 (⟨x383000_2, ((rd_T80 l0_3 x4_1).f1), ((rd_T80 l0_3 x4_1).f2)⟩ : S87) [.slice Ao44 x383000_2.length co44, .slice A380_1 ((rd_T80 l0_3 x4_1).f1).length c380_1, .int .i64 ((rd_T80 l0_3 x4_1).f2)] (fun k_ => (P0_3_ k_ ∨ w.heap.size ≤ k_) ∧ k_ ≠ gb377 ∧ k_ ≠ gb378 ∧ k_ ≠ gb379 ∧ k_ ≠ gb382) (fun k_ => ((fun k_ => (P0_3_ k_ ∨ w.heap.size ≤ k_) ∧ k_ ≠ gb377 ∧ k_ ≠ gb378 ∧ k_ ≠ gb379 ∧ k_ ≠ gb382)) k_ ∧ some k_ ≠ (u380003 : Value).ownBlock) rfl rfl ?aP (fun _ hk => hk) ?aF ?aO ?aB ?aS ?aL ?_; (case aP => exact (k87_mkF _ _ (⟨x383000_2, ((rd_T80 l0_3 x4_1).f1), ((rd_T80 l0_3 x4_1).f2)⟩ : S87) (Kd.N_reads' (Kd.N_mono (ok' := (fun k_ => ((fun k_ => (P0_3_ k_ ∨ w.heap.size ≤ k_) ∧ k_ ≠ gb377 ∧ k_ ≠ gb378 ∧ k_ ≠ gb379 ∧ k_ ≠ gb382)) k_ ∧ some k_ ≠ (u380003 : Value).ownBlock)) (HO_383000.out) (fun k_ hk => ⟨⟨hk.1, ⟨hk.2.2.1, ⟨hk.2.2.2.1, ⟨hk.2.2.2.2.1, hk.2.2.2.2.2⟩⟩⟩⟩, hk.2.1⟩))).2.1 (Kd.N_F (Kd.N_mono (ok' := (fun k_ => ((fun k_ => (P0_3_ k_ ∨ w.heap.size ≤ k_) ∧ k_ ≠ gb377 ∧ k_ ≠ gb378 ∧ k_ ≠ gb379 ∧ k_ ≠ gb382)) k_ ∧ some k_ ≠ (u380003 : Value).ownBlock)) (HO_383000.out) (fun k_ hk => ⟨⟨hk.1, ⟨hk.2.2.1, ⟨hk.2.2.2.1, ⟨hk.2.2.2.2.1, hk.2.2.2.2.2⟩⟩⟩⟩, hk.2.1⟩))) (Kd.V_reads' (Kd.V_mono (ok' := (fun k_ => ((fun k_ => (P0_3_ k_ ∨ w.heap.size ≤ k_) ∧ k_ ≠ gb377 ∧ k_ ≠ gb378 ∧ k_ ≠ gb379 ∧ k_ ≠ gb382)) k_ ∧ some k_ ≠ (u380003 : Value).ownBlock)) (HO_383001.out) (fun k_ hk => ⟨⟨hk.1, ⟨hk.2.2.2.1, ⟨hk.2.2.2.2.1, ⟨hk.2.2.2.2.2.1, hk.2.2.2.2.2.2⟩⟩⟩⟩, hk.2.1⟩))).2.1 (Kd.V_F (Kd.V_mono (ok' := (fun k_ => ((fun k_ => (P0_3_ k_ ∨ w.heap.size ≤ k_) ∧ k_ ≠ gb377 ∧ k_ ≠ gb378 ∧ k_ ≠ gb379 ∧ k_ ≠ gb382)) k_ ∧ some k_ ≠ (u380003 : Value).ownBlock)) (HO_383001.out) (fun k_ hk => ⟨⟨hk.1, ⟨hk.2.2.2.1, ⟨hk.2.2.2.2.1, ⟨hk.2.2.2.2.2.1, hk.2.2.2.2.2.2⟩⟩⟩⟩, hk.2.1⟩))))); (case aB => exact Q51); (case aF => exact (fun k_ hk => ⟨(.inr (Nat.le_trans (below_size Q51) hk)), Kd.freshB (g := gb377) (o := .cells #[.int .i64 a0_0, .int .i64 a0_1, .bool a0_2, .slice (some ad380) l0_3.length c0_3] 24 (0, 0)) Q39 k_ hk, Kd.freshB (g := gb378) (o := .cells #[.int .i64 0, .int .i64 0, .bool false, .slice none 0 0] 35 (0, 0)) Q48 k_ hk, Kd.freshB (g := gb379) (o := .cells #[.int .i64 a0_0, .int .i64 a0_1, .bool a0_2, u380003] 35 (0, 0)) Q57 k_ hk, Kd.freshB (g := gb382) (o := .cells #[.slice Ao44 x383000_2.length co44, .slice A380_1 ((rd_T80 l0_3 x4_1).f1).length c380_1, .int .i64 ((rd_T80 l0_3 x4_1).f2)] 87 (0, 0)) Q79 k_ hk⟩)); (case aO => exact (by (with_reducible repeat (first | apply Kd.N_alloc | apply Kd.N_drewN | apply Kd.N_drew)); exact Kd.N_mono HO_380003.out (fun _ hk => ⟨hk.1, ⟨hk.2.2.1, ⟨hk.2.2.2.1, ⟨hk.2.2.2.2.1, hk.2.2.2.2.2⟩⟩⟩⟩))); (case aS => exact (below_size Q51)); (case aL => have := LMc33.out; omega); intro v390 w43 ho hb hg hat; rw [← Ny389.out] at ho; have n0_ := Aside0.mk (Kd.V_afterv (ok := (fun k_ => (P0_3_ k_ ∨ w.heap.size ≤ k_) ∧ some k_ ≠ (.slice Ao44 x383000_2.length co44 : Value).ownBlock ∧ k_ ≠ gb377 ∧ k_ ≠ gb378 ∧ k_ ≠ gb379 ∧ k_ ≠ gb382)) (by (with_reducible repeat (first | apply Kd.V_alloc | apply Kd.V_drewN | apply Kd.V_drew)); exact Kd.V_mono HO_378003.out (fun _ hk => ⟨⟨hk.1, ⟨hk.2.2.1, ⟨hk.2.2.2.1, ⟨hk.2.2.2.2.1, ⟨hk.2.2.2.2.2.1, hk.2.2.2.2.2.2⟩⟩⟩⟩⟩, hk.2.1⟩)) hg hat); have n1_ := Aside0.mk (Kd.V_afterv (ok := (fun k_ => (P0_3_ k_ ∨ w.heap.size ≤ k_) ∧ some k_ ≠ (.slice Ao44 x383000_2.length co44 : Value).ownBlock ∧ k_ ≠ gb377 ∧ k_ ≠ gb378 ∧ k_ ≠ gb379 ∧ k_ ≠ gb382)) (by (with_reducible repeat (first | apply Kd.V_alloc | apply Kd.V_drewN | apply Kd.V_drew)); exact Kd.V_mono HO_383001.out (fun _ hk => ⟨⟨hk.1, ⟨hk.2.2.1, ⟨hk.2.2.2.1, ⟨hk.2.2.2.2.1, ⟨hk.2.2.2.2.2.1, hk.2.2.2.2.2.2⟩⟩⟩⟩⟩, hk.2.1⟩)) hg hat); have n2_ := Aside0.mk (blk_grown (g := gb377) (o := .cells #[.int .i64 a0_0, .int .i64 a0_1, .bool a0_2, .slice (some ad380) l0_3.length c0_3] 24 (0, 0)) Q39 hg (Kd.N_ne HO_380003.out BK377.out Q12)); have n3_ := Aside0.mk (blk_grown (g := gb378) (o := .cells #[.int .i64 0, .int .i64 0, .bool false, .slice none 0 0] 35 (0, 0)) Q48 hg (Kd.N_ne HO_380003.out BK378.out Q12)); have n4_ := Aside0.mk (blk_grown (g := gb379) (o := .cells #[.int .i64 a0_0, .int .i64 a0_1, .bool a0_2, u380003] 35 (0, 0)) Q57 hg (Kd.N_ne HO_380003.out BK379.out Q12)); have n5_ := Aside0.mk (blk_grown (g := gb382) (o := .cells #[.slice Ao44 x383000_2.length co44, .slice A380_1 ((rd_T80 l0_3 x4_1).f1).length c380_1, .int .i64 ((rd_T80 l0_3 x4_1).f2)] 87 (0, 0)) Q79 hg (Kd.N_away HO_380003.out (fun _ hk => hk.2.2.2.2.2))); have n6_ := Aside0.mk (Kd.V_afterv (ok := (fun k_ => (P0_3_ k_ ∨ w.heap.size ≤ k_) ∧ some k_ ≠ (.slice Ao44 x383000_2.length co44 : Value).ownBlock ∧ k_ ≠ gb377 ∧ k_ ≠ gb378 ∧ k_ ≠ gb379 ∧ k_ ≠ gb382)) (by (with_reducible repeat (first | apply Kd.V_alloc | apply Kd.V_drewN | apply Kd.V_drew)); exact Kd.V_mono HL383_0.out (fun _ hk => ⟨⟨hk.1, ⟨hk.2.2.1, ⟨hk.2.2.2.1, ⟨hk.2.2.2.2.1, ⟨hk.2.2.2.2.2.1, hk.2.2.2.2.2.2⟩⟩⟩⟩⟩, hk.2.1⟩)) hg hat); have n7_ := Aside0.mk (Kd.V_afterv (ok := (fun k_ => (P0_3_ k_ ∨ w.heap.size ≤ k_) ∧ some k_ ≠ (.slice Ao44 x383000_2.length co44 : Value).ownBlock ∧ k_ ≠ gb377 ∧ k_ ≠ gb378 ∧ k_ ≠ gb379 ∧ k_ ≠ gb382)) (by (with_reducible repeat (first | apply Kd.V_alloc | apply Kd.V_drewN | apply Kd.V_drew)); exact Kd.V_mono HL383_1.out (fun _ hk => ⟨⟨hk.1, ⟨hk.2.2.1, ⟨hk.2.2.2.1, ⟨hk.2.2.2.2.1, ⟨hk.2.2.2.2.2.1, hk.2.2.2.2.2.2⟩⟩⟩⟩⟩, hk.2.1⟩)) hg hat); have n8_ := Aside0.mk (hb); have n9_ := Aside0.mk (ho); clear HO_378003; clear HO_383001; clear BK377; clear BK378; clear BK379; clear BK382; clear HL383_0; clear HL383_1; clear HB; clear HO_380003; clear HO_383000; have HO_378003 := n0_; have HO_383001 := n1_; have BK377 := n2_; have BK378 := n3_; have BK379 := n4_; have BK382 := n5_; have HL383_0 := n6_; have HL383_1 := n7_; have HB := n8_; have HO391 := n9_; clear n0_ n1_ n2_ n3_ n4_ n5_ n6_ n7_ n8_ n9_; clear ho hb hg hat; obtain ⟨Ao45, co45, eo45⟩ := Kd.N_slice HO391.out; subst eo45; have hcz46_0 : w43.cell? ⟨gb379, 0, none⟩ = some (.int .i64 a0_0) := (blk_cell BK379.out 0).trans rfl; have hcz46_1 : w43.cell? ⟨gb379, 1, none⟩ = some (.int .i64 a0_1) := (blk_cell BK379.out 1).trans rfl; have hcz46_2 : w43.cell? ⟨gb379, 2, none⟩ = some (.bool a0_2) := (blk_cell BK379.out 2).trans rfl; have hcz46_3 : w43.cell? ⟨gb379, 3, none⟩ = some (u380003) := (blk_cell BK379.out 3).trans rfl; have hfz46_0 := blk_frozen BK379.out 0; have hfz46_1 := blk_frozen BK379.out 1; have hfz46_2 := blk_frozen BK379.out 2; have hfz46_3 := blk_frozen BK379.out 3))
          go_roundg k2
          case measure => have := HK1.out; have := HK2.out; omega
          case rel => exact ⟨(wrap64 (x4_1 + 1)), (y389), (.slice Ao45 y389.length co45), Q3, H', ⟨by have := HK1.out; have := HK2.out; omega⟩, ⟨by (with_reducible repeat (first | apply Kd.V_alloc | apply Kd.V_drewN | apply Kd.V_drew)); exact Kd.V_mono (Kd.V_far (p := ⟨gb379, 3, none⟩) (Kd.V_mono HO_378003.out (fun k_ hk => (⟨hk, hk.1.2.2.2.2.1⟩ : _ ∧ k_ ≠ gb379))) (fun _ hk => hk.2) (.slice Ao45 y389.length co45)) (fun _ hk => ⟨hk.1.1.1, ⟨hk.1.2, ⟨hk.1.1.2.2.1, ⟨hk.1.1.2.2.2.1, hk.1.1.2.2.2.2.1⟩⟩⟩⟩)⟩, ⟨by (with_reducible repeat (first | apply Kd.N_alloc | apply Kd.N_drewN | apply Kd.N_drew)); exact Kd.N_mono (Kd.N_far (p := ⟨gb379, 3, none⟩) (Kd.N_mono HO391.out (fun k_ hk => (⟨hk, hk.2.2.2.1⟩ : _ ∧ k_ ≠ gb379))) (fun _ hk => hk.2) (.slice Ao45 y389.length co45)) (fun _ hk => ⟨hk.1.1, ⟨hk.1.2.1, ⟨hk.1.2.2.1, hk.1.2.2.2.1⟩⟩⟩)⟩, ⟨by (with_reducible repeat (first | refine blk_drewN ?_ _ | refine blk_drew ?_ | refine blk_alloc ?_ _)); refine blk_far ?_ NB377_379.out _; (with_reducible repeat (first | refine blk_drewN ?_ _ | refine blk_drew ?_ | refine blk_alloc ?_ _)); exact BK377.out⟩, ⟨by (with_reducible repeat (first | refine blk_drewN ?_ _ | refine blk_drew ?_ | refine blk_alloc ?_ _)); refine blk_far ?_ NB378_379.out _; (with_reducible repeat (first | refine blk_drewN ?_ _ | refine blk_drew ?_ | refine blk_alloc ?_ _)); exact BK378.out⟩, ⟨by (with_reducible repeat (first | refine blk_drewN ?_ _ | refine blk_drew ?_ | refine blk_alloc ?_ _)); refine blk_put (cs := #[.int .i64 a0_0, .int .i64 a0_1, .bool a0_2, u380003]) ?_ 3 _ rfl; (with_reducible repeat (first | refine blk_drewN ?_ _ | refine blk_drew ?_ | refine blk_alloc ?_ _)); exact BK379.out⟩, ⟨Q51⟩⟩
         rw [if_neg c33] at H
         exact absurd H Q8
        rw [if_neg c21] at H
        exact absurd H Q8
       rw [if_neg c20] at H
       exact absurd H Q8
    rw [if_neg c11] at H
    exact absurd H Q8
   rw [if_neg c10] at H
   have c10b0 : decide (x4_1 < (l0_3.length : Int)) = false := decide_eq_false c10
   clear c10
   simp only [Option.some.injEq, Prod.mk.injEq] at H
   obtain ⟨rfl, rfl, rfl, rfl⟩ := H
   have hnb47 := NB377_378.out
   have hnc47 := NB378_377.out
   have hnb48 := NB377_379.out
   have hnc48 := NB379_377.out
   have ⟨hcz49_0, hcz49_1, hcz49_2, hcz49_3, hfz49_0, hfz49_1, hfz49_2, hfz49_3⟩ := blk4 BK377.out
   have hnb50 := NB379_378.out
   have hnc50 := NB378_379.out
   have ⟨hcz51_0, hcz51_1, hcz51_2, hcz51_3, hfz51_0, hfz51_1, hfz51_2, hfz51_3⟩ := blk4 BK379.out
   have ⟨hcz52_0, hcz52_1, hcz52_2, hcz52_3, hfz52_0, hfz52_1, hfz52_2, hfz52_3⟩ := blk4 BK378.out
   obtain ⟨Ao53, co53, eo53⟩ := Kd.N_slice HO_380003.out
   subst eo53
   go_wp2
   refine bodyPost_ret (results_cell_row rfl _ _ gb378 35 #[.int .i64 a0_0, .int .i64 a0_1, .bool a0_2, .slice Ao53 x380003_1.length co53] (0, 0) _ rfl (by (with_reducible repeat (first | refine blk_drewN ?_ _ | refine blk_drew ?_ | refine blk_alloc ?_ _)); refine blk_put (cs := #[.int .i64 a0_0, .int .i64 a0_1, .bool a0_2, .slice none 0 0]) ?_ 3 _ rfl; (with_reducible repeat (first | refine blk_drewN ?_ _ | refine blk_drew ?_ | refine blk_alloc ?_ _)); refine blk_put (cs := #[.int .i64 a0_0, .int .i64 a0_1, .bool false, .slice none 0 0]) ?_ 2 _ rfl; (with_reducible repeat (first | refine blk_drewN ?_ _ | refine blk_drew ?_ | refine blk_alloc ?_ _)); refine blk_put (cs := #[.int .i64 a0_0, .int .i64 0, .bool false, .slice none 0 0]) ?_ 1 _ rfl; (with_reducible repeat (first | refine blk_drewN ?_ _ | refine blk_drew ?_ | refine blk_alloc ?_ _)); refine blk_put (cs := #[.int .i64 0, .int .i64 0, .bool false, .slice none 0 0]) ?_ 0 _ rfl; (with_reducible repeat (first | refine blk_drewN ?_ _ | refine blk_drew ?_ | refine blk_alloc ?_ _)); exact BK378.out) Tryz.underlying35 rfl Q0) rfl ?_
   exact ⟨_, Q6, by (with_reducible repeat (first | apply Kd.N_alloc | apply Kd.N_drewN | apply Kd.N_drew)); exact Kd.N_mono (Kd.N_far (p := ⟨gb378, 3, none⟩) (Kd.N_far (p := ⟨gb378, 2, none⟩) (Kd.N_far (p := ⟨gb378, 1, none⟩) (Kd.N_far (p := ⟨gb378, 0, none⟩) (Kd.N_mono HO_380003.out (fun k_ hk => (⟨hk, hk.2.2.1⟩ : _ ∧ k_ ≠ gb378))) (fun _ hk => hk.2) (.int .i64 a0_0)) (fun _ hk => hk.2) (.int .i64 a0_1)) (fun _ hk => hk.2) (.bool a0_2)) (fun _ hk => hk.2) (.slice Ao53 x380003_1.length co53)) (fun _ hk => hk.1.1), Q68⟩
end Go.Proofs.YthgkeehpoilgaaaGreatDoor.Hw
end
section
namespace Go.Proofs.YthgkeehpoilgaaaGreatDoor.Hw
open Go.RowKit Go.Proofs.YthgkeehpoilgaaaGreatDoorW.PrintWords Go.Proofs.YthgkeehpoilgaaaGreatDoorW.PrintLast Go.Proofs.YthgkeehpoilgaaaGreatDoorW.PrintMore
attribute [local go_sem] max2_int min2_int max_two min_two max_three min_three max_four min_four
set_option linter.unusedVariables false
set_option linter.unusedSimpArgs false
open Go.Extern.Stop Go.Stop Go.Extern
theorem rl_valueOfP (t : Addr) (w : World) : (ReflectliteValue.unpack (.iface 106 (.pointer (some t)))).run Tryz.prog w
    = .ok (.agg #[.pointer (some ⟨5, 106, none⟩), .pointer (some ⟨w.heap.size, 0, none⟩), .int .u64 150]) (w.alloc (.cells #[.pointer (some t)] 106)) := by kernel_rfl
theorem rl_typeP (a : Addr) (w : World) : (ReflectliteValue.methodAny (ReflectliteValue.valueError "reflectlite.Value.Type" 0) (fun t _ _ _ => ReflectliteType.toType t) #[.agg #[.pointer (some ⟨5, 106, none⟩), .pointer (some a), .int .u64 150]]).run Tryz.prog w
    = .ok (.iface 216 (.agg #[.pointer (some ⟨5, 106, none⟩)])) w := by kernel_rfl
theorem rl_methodKind (h : Value) (w : World) : (Go.method 389 216 (.agg #[h]) "Kind").run Tryz.prog w = .ok (154, h) w := by kernel_rfl
theorem rl_kindP (w : World) : ((ReflectliteType.abiMethod fun t => (fun a : Nat => Value.int IntKind.u8 (a : Int)) <$> Rtype.kind t) #[.pointer (some ⟨5, 106, none⟩)]).run Tryz.prog w = .ok (.int .u8 22) w := by kernel_rfl
theorem rl_kindE (w : World) : ((ReflectliteType.abiMethod fun t => (fun a : Nat => Value.int IntKind.u8 (a : Int)) <$> Rtype.kind t) #[.pointer (some ⟨5, 104, none⟩)]).run Tryz.prog w = .ok (.int .u8 2) w := by kernel_rfl
theorem rlm (z : Sem Value) (f : TypeId → Addr → Nat → Nat → Sem Value) (v : Value) :
    ReflectliteValue.method z f #[v] = (do match ← ReflectliteValue.parts v with | none => z | some (t, a, fl) => f t a fl (fl % 32)) := rfl
theorem rl_partsP (a : Addr) (w : World) : (ReflectliteValue.parts (.agg #[.pointer (some ⟨5, 106, none⟩), .pointer (some a), .int .u64 150])).run Tryz.prog w = .ok (some (106, a, 150)) w := by kernel_rfl
theorem rl_isNilP (a p : Addr) (W : World) (ha : W.cell? a = some (.pointer (some p))) :
    (ReflectliteValue.method (ReflectliteValue.valueError "reflectlite.Value.IsNil" 0) ReflectliteValue.isNil #[.agg #[.pointer (some ⟨5, 106, none⟩), .pointer (some a), .int .u64 150]]).run Tryz.prog W = .ok (.bool false) W := by
  rw [rlm]
  simp only [Sem.run_bind, rl_partsP, Result.andThen]
  simp [ReflectliteValue.isNil, loadVar, isAgg, underlying, Tryz.underlying106, ha, Result.andThen]
theorem rl_methodElem (h : Value) (w : World) : (Go.method 389 216 (.agg #[h]) "Elem").run Tryz.prog w = .ok (166, .agg #[h]) w := by kernel_rfl
theorem rl_methodImplements (h : Value) (w : World) : (Go.method 389 216 (.agg #[h]) "Implements").run Tryz.prog w = .ok (167, .agg #[h]) w := by kernel_rfl
theorem rl_methodAssignableTo (h : Value) (w : World) : (Go.method 389 216 (.agg #[h]) "AssignableTo").run Tryz.prog w = .ok (164, .agg #[h]) w := by kernel_rfl
theorem rl_elemP (w : World) : (ReflectliteType.method ReflectliteType.elem #[.agg #[.pointer (some ⟨5, 106, none⟩)]]).run Tryz.prog w = .ok (.iface 216 (.agg #[.pointer (some ⟨5, 104, none⟩)])) w := by kernel_rfl
theorem rl_implementsE (w : World) : (ReflectliteType.relation "Implements" ReflectliteType.implements_ #[.agg #[.pointer (some ⟨5, 104, none⟩)], .iface 216 (.agg #[.pointer (some ⟨5, 30, none⟩)])]).run Tryz.prog w = .ok (.bool true) w := by kernel_rfl
theorem rl_typeOfE (v : Value) (w : World) : (ReflectliteType.typeOf #[.iface 104 v]).run Tryz.prog w = .ok (.iface 216 (.agg #[.pointer (some ⟨5, 104, none⟩)])) w := by kernel_rfl
theorem rl_assignableE (w : World) : (ReflectliteType.relation "AssignableTo" ReflectliteType.assignableTo #[.agg #[.pointer (some ⟨5, 104, none⟩)], .iface 216 (.agg #[.pointer (some ⟨5, 104, none⟩)])]).run Tryz.prog w = .ok (.bool true) w := by kernel_rfl
theorem rl_valueOfE (c : Int) (w : World) : (ReflectliteValue.unpack (.iface 104 (.int .i64 c))).run Tryz.prog w
    = .ok (.agg #[.pointer (some ⟨5, 104, none⟩), .pointer (some ⟨w.heap.size, 0, none⟩), .int .u64 130]) (w.alloc (.cells #[.int .i64 c] 104)) := by kernel_rfl
theorem rl_elemOfP (w : World) : (Rtype.elem? 106).run Tryz.prog w = .ok (some 104) w := by kernel_rfl
theorem rl_mkE (p : Addr) (w : World) : (ReflectliteValue.mk 104 p ReflectliteValue.flagAddr).run Tryz.prog w = .ok (.agg #[.pointer (some ⟨5, 104, none⟩), .pointer (some p), .int .u64 386]) w := by kernel_rfl
theorem rl_elemVP (a p : Addr) (W : World) (ha : W.cell? a = some (.pointer (some p))) :
    (ReflectliteValue.method (ReflectliteValue.valueError "reflectlite.Value.Elem" 0) ReflectliteValue.elem #[.agg #[.pointer (some ⟨5, 106, none⟩), .pointer (some a), .int .u64 150]]).run Tryz.prog W
      = .ok (.agg #[.pointer (some ⟨5, 104, none⟩), .pointer (some p), .int .u64 386]) W := by
  rw [rlm]
  simp only [Sem.run_bind, rl_partsP, Result.andThen]
  simp [ReflectliteValue.elem, loadVar, isAgg, underlying, Tryz.underlying106, ha, Result.andThen, rl_elemOfP, rl_mkE]
theorem rls (v x : Value) : ReflectliteValue.set #[v, x] = (do
    let (some (dst, a, fl), some (src, b, _)) := (← ReflectliteValue.parts v, ← ReflectliteValue.parts x)
      | unsupported (.noEntry "extern/(internal/reflectlite.Value).Set.zeroValue")
    if fl / ReflectliteValue.flagAddr % 2 == 0 then unsupported (.noEntry "extern/(internal/reflectlite.Value).Set.unaddressable")
    let val ← loadVar src b
    if ← Rtype.directlyAssignable dst src then storeVar dst a val
    else if ← Rtype.implements dst src then
      if (← Rtype.kind src) == 20 then
        match val with
        | .nilIface => unsupported (.noEntry "extern/reflectlite: a nil value of one interface type handed on as a value of another")
        | _ => storeVar dst a val
      else storeVar dst a (.iface src val)
    else panicString ("reflectlite.Set: value of type " ++ (← Rtype.spelt src) ++ " is not assignable to type " ++ (← Rtype.spelt dst))
    pure (.tuple #[])) := rfl
theorem rl_partsEa (a : Addr) (w : World) : (ReflectliteValue.parts (.agg #[.pointer (some ⟨5, 104, none⟩), .pointer (some a), .int .u64 386])).run Tryz.prog w = .ok (some (104, a, 386)) w := by kernel_rfl
theorem rl_partsE (a : Addr) (w : World) : (ReflectliteValue.parts (.agg #[.pointer (some ⟨5, 104, none⟩), .pointer (some a), .int .u64 130])).run Tryz.prog w = .ok (some (104, a, 130)) w := by kernel_rfl
theorem rl_directE (w : World) : (Rtype.directlyAssignable 104 104).run Tryz.prog w = .ok true w := by kernel_rfl
theorem rl_setE (ta b : Addr) (c : Int) (old : Value) (W : World) (hb : W.cell? b = some (.int .i64 c)) (ht : W.cell? ta = some old) (hf : W.frozen? ta = false) :
    (ReflectliteValue.set #[.agg #[.pointer (some ⟨5, 104, none⟩), .pointer (some ta), .int .u64 386], .agg #[.pointer (some ⟨5, 104, none⟩), .pointer (some b), .int .u64 130]]).run Tryz.prog W
      = .ok (.tuple #[]) (W.setCell ta (.int .i64 c)) := by
  rw [rls]
  simp only [Sem.run_bind, rl_partsEa, rl_partsE, Result.andThen]
  simp [ReflectliteValue.flagAddr, loadVar, isAgg, underlying, Tryz.underlying104, hb, Result.andThen, rl_directE, storeVar, Value.cells, storeCells, Addr.add]
  rw [run_store Tryz.prog W ta _ _ (by rfl)]
  simp [ht, hf]
set_option maxHeartbeats 8000000 in
set_option maxRecDepth 100000 in
theorem as_hit (c : Int) (t : Addr) (old : Value) (w : World) (hg : w.cell? ⟨0, 0, none⟩ = some (.iface 216 (.agg #[.pointer (some ⟨5, 30, none⟩)]))) (ht0 : w.cell? t = some old) (hf0 : w.frozen? t = false) :
    Calls Tryz.prog 37 #[.iface 104 (.int .i64 c), .iface 106 (.pointer (some t))] w fun ev w' => ev = .returned (.bool true) ∧ w' = ((((w.alloc (.cells #[.pointer (some t)] 106)).alloc (.cells #[.pointer (some ⟨5, 106, none⟩), .pointer (some ⟨w.heap.size, 0, none⟩), .int .u64 150] 183)).alloc (.cells #[.pointer (some ⟨5, 106, none⟩), .pointer (some ⟨w.heap.size, 0, none⟩), .int .u64 150] 183)).alloc (.cells #[.int .i64 c] 104)).setCell t (.int .i64 c) := by
  have h6 := @run_callFunc_extern Tryz.prog 67 _ (fun args => ReflectliteValue.unpack (args.getD 0 (.tuple #[]))) Tryz.func67 (by kernel_rfl) (by kernel_rfl) (by kernel_rfl) (by kernel_rfl)
  have h7 := @run_callFunc_extern Tryz.prog 68 _ (ReflectliteValue.methodAny (ReflectliteValue.valueError "reflectlite.Value.Type" 0) (fun t _ _ _ => ReflectliteType.toType t)) Tryz.func68 (by kernel_rfl) (by kernel_rfl) (by kernel_rfl) (by kernel_rfl)
  have h8 := @run_callFunc_extern Tryz.prog 69 _ (ReflectliteValue.method (ReflectliteValue.valueError "reflectlite.Value.IsNil" 0) ReflectliteValue.isNil) Tryz.func69 (by kernel_rfl) (by kernel_rfl) (by kernel_rfl) (by kernel_rfl)
  have h27 := @run_callFunc_extern Tryz.prog 154 _ (ReflectliteType.abiMethod fun t => do pure (.int .u8 (← Rtype.kind t))) Tryz.func154 (by kernel_rfl) (by kernel_rfl) (by kernel_rfl) (by kernel_rfl)
  have h37 := @run_callFunc_extern Tryz.prog 166 _ (ReflectliteType.method ReflectliteType.elem) Tryz.func166 (by kernel_rfl) (by kernel_rfl) (by kernel_rfl) (by kernel_rfl)
  have h38 := @run_callFunc_extern Tryz.prog 167 _ (ReflectliteType.relation "Implements" ReflectliteType.implements_) Tryz.func167 (by kernel_rfl) (by kernel_rfl) (by kernel_rfl) (by kernel_rfl)
  have h10 := @run_callFunc_extern Tryz.prog 94 _ ReflectliteType.typeOf Tryz.func94 (by kernel_rfl) (by kernel_rfl) (by kernel_rfl) (by kernel_rfl)
  have h35 := @run_callFunc_extern Tryz.prog 164 _ (ReflectliteType.relation "AssignableTo" ReflectliteType.assignableTo) Tryz.func164 (by kernel_rfl) (by kernel_rfl) (by kernel_rfl) (by kernel_rfl)
  have h11 := @run_callFunc_extern Tryz.prog 95 _ (ReflectliteValue.method (ReflectliteValue.valueError "reflectlite.Value.Elem" 0) ReflectliteValue.elem) Tryz.func95 (by kernel_rfl) (by kernel_rfl) (by kernel_rfl) (by kernel_rfl)
  have h12 := @run_callFunc_extern Tryz.prog 96 _ ReflectliteValue.set Tryz.func96 (by kernel_rfl) (by kernel_rfl) (by kernel_rfl) (by kernel_rfl)
  have tO := rl_typeOfE
  have mA := rl_methodAssignableTo
  have a25 := rl_assignableE
  have v25 := rl_valueOfE
  have f6 := rl_valueOfP
  have f7 := rl_typeP
  have mK := rl_methodKind
  have mE := rl_methodElem
  have mI := rl_methodImplements
  have k27 := rl_kindP
  have k25 := rl_kindE
  have e27 := rl_elemP
  have i25 := rl_implementsE
  have n8 := rl_isNilP ⟨w.heap.size, 0, none⟩ t ((w.alloc (.cells #[.pointer (some t)] 106)).alloc (.cells #[.pointer (some ⟨5, 106, none⟩), .pointer (some ⟨w.heap.size, 0, none⟩), .int .u64 150] 183)) (by simp)
  have hlt : 0 < w.heap.size := by
    rcases Nat.lt_or_ge 0 w.heap.size with h | h
    · exact h
    · simp [World.cell?, Array.getElem?_eq_none h] at hg
  have hg2 : ((w.alloc (.cells #[.pointer (some t)] 106)).alloc (.cells #[.pointer (some ⟨5, 106, none⟩), .pointer (some ⟨w.heap.size, 0, none⟩), .int .u64 150] 183)).cell? ⟨0, 0, none⟩ = some (.iface 216 (.agg #[.pointer (some ⟨5, 30, none⟩)])) := by
    rw [World.cell?_alloc_lt _ _ ⟨0, 0, none⟩ (by first | (simp; done) | (simp; omega)), World.cell?_alloc_lt _ _ ⟨0, 0, none⟩ hlt]; exact hg
  have htl : t.block < w.heap.size := by
    rcases Nat.lt_or_ge t.block w.heap.size with h | h
    · exact h
    · simp [World.cell?, Array.getElem?_eq_none h] at ht0
  have el := rl_elemVP ⟨w.heap.size, 0, none⟩ t (((w.alloc (.cells #[.pointer (some t)] 106)).alloc (.cells #[.pointer (some ⟨5, 106, none⟩), .pointer (some ⟨w.heap.size, 0, none⟩), .int .u64 150] 183)).alloc (.cells #[.pointer (some ⟨5, 106, none⟩), .pointer (some ⟨w.heap.size, 0, none⟩), .int .u64 150] 183)) (by rw [World.cell?_alloc_lt _ _ ⟨w.heap.size, 0, none⟩ (by simp; omega)]; simp)
  have st := rl_setE t ⟨w.heap.size + 1 + 1 + 1, 0, none⟩ c old ((((w.alloc (.cells #[.pointer (some t)] 106)).alloc (.cells #[.pointer (some ⟨5, 106, none⟩), .pointer (some ⟨w.heap.size, 0, none⟩), .int .u64 150] 183)).alloc (.cells #[.pointer (some ⟨5, 106, none⟩), .pointer (some ⟨w.heap.size, 0, none⟩), .int .u64 150] 183)).alloc (.cells #[.int .i64 c] 104))
    (by rw [World.cell?_alloc_at _ _ _ _ (by simp)]; rfl)
    (by rw [World.cell?_alloc_lt _ _ t (by simp; omega), World.cell?_alloc_lt _ _ t (by simp; omega), World.cell?_alloc_lt _ _ t (by simp; omega), World.cell?_alloc_lt _ _ t htl]; exact ht0)
    (by rw [World.frozen?_alloc_old _ _ t (by simp; omega), World.frozen?_alloc_old _ _ t (by simp; omega), World.frozen?_alloc_old _ _ t (by simp; omega), World.frozen?_alloc_old _ _ t (Nat.ne_of_lt htl)]; exact hf0)
  go_enter Tryz.func37, Tryz.ntmps37
  go_wp2
  refine wp_loop_rounds 1 ?_
  rw [rounds_succ]
  go_wp2
  go_ret
  exact ⟨rfl, rfl⟩
end Go.Proofs.YthgkeehpoilgaaaGreatDoor.Hw
end
section
namespace Go.Proofs.YthgkeehpoilgaaaGreatDoor.Hw
open Go.RowKit Go.Proofs.YthgkeehpoilgaaaGreatDoorW.PrintWords Go.Proofs.YthgkeehpoilgaaaGreatDoorW.PrintLast Go.Proofs.YthgkeehpoilgaaaGreatDoorW.PrintMore
attribute [local go_sem] max2_int min2_int max_two min_two max_three min_three max_four min_four
set_option linter.unusedVariables false
set_option linter.unusedSimpArgs false
def mandrellaw11_num.f (a0 : Option Int) : Option Int := some (a0.getD 0)
theorem mandrellaw11_num.calls (a0 : Option Int) (r : Int) (w : World) (hG : GG [1] w) (h : mandrellaw11_num.f a0 = some r) :
    Calls Tryz.prog 20 #[errW a0] w fun e w' => e = .returned (.int .i64 r) ∧ Below w.heap.size w w' := by
  obtain rfl := Option.some.inj h
  clear h
  have hg : w.cell? ⟨0, 0, none⟩ = some (.iface 216 (.agg #[.pointer (some ⟨5, 30, none⟩)])) := hG 1 (by simp)
  clear hG
  cases a0 with
  | none =>
    go_enter Tryz.func20, Tryz.ntmps20
    simp only [errW_none]
    go_wp2
    go_ret
    exact ⟨rfl, (Below.refl _ _).alloc (Nat.le_refl _) _⟩
  | some c =>
    have hlt : 0 < w.heap.size := by
      rcases Nat.lt_or_ge 0 w.heap.size with h | h
      · exact h
      · simp [World.cell?, Array.getElem?_eq_none h] at hg
    have hgA : (w.alloc (.cells #[.int .i64 0] 104)).cell? ⟨0, 0, none⟩ = some (.iface 216 (.agg #[.pointer (some ⟨5, 30, none⟩)])) := by
      rw [World.cell?_alloc_lt _ _ ⟨0, 0, none⟩ hlt]; exact hg
    have htA : (w.alloc (.cells #[.int .i64 0] 104)).cell? ⟨w.heap.size, 0, none⟩ = some (.int .i64 0) := by simp
    have hfA : (w.alloc (.cells #[.int .i64 0] 104)).frozen? ⟨w.heap.size, 0, none⟩ = false := by simp
    clear hg
    go_enter Tryz.func20, Tryz.ntmps20
    simp only [errW_some]
    go_wp2_with (go_at_call 37; refine (as_hit c _ (.int .i64 0) _ hgA htA hfA).mono ?_; rintro e w' ⟨rfl, rfl⟩)
    go_ret
    exact ⟨rfl, by repeat (first | exact Below.refl _ _ | apply below_alloc)⟩
end Go.Proofs.YthgkeehpoilgaaaGreatDoor.Hw
end

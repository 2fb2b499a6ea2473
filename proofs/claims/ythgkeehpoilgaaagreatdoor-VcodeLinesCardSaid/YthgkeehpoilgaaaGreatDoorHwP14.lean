import Derived.ChangeArms
import Derived.Deep.Slices
import Derived.Deep.Fields
import Derived.Lib.SmallJoins
import Derived.Test.YthgkeehpoilgaaaGreatDoorHwP2
import Derived.Test.YthgkeehpoilgaaaGreatDoorHwP3
import Derived.Test.YthgkeehpoilgaaaGreatDoorHwP6
import Derived.Test.YthgkeehpoilgaaaGreatDoorHwP7
import Derived.Test.YthgkeehpoilgaaaGreatDoorHwP8
import Derived.Test.YthgkeehpoilgaaaGreatDoorHwP10
import Derived.Test.YthgkeehpoilgaaaGreatDoorHwP11
import Derived.Test.YthgkeehpoilgaaaGreatDoorHwP12
import Derived.Test.YthgkeehpoilgaaaGreatDoorHwP13
section
namespace Go.Proofs.YthgkeehpoilgaaaGreatDoor.Hw
open Go.RowKit Go.Proofs.YthgkeehpoilgaaaGreatDoorW.PrintWords Go.Proofs.YthgkeehpoilgaaaGreatDoorW.PrintLast Go.Proofs.YthgkeehpoilgaaaGreatDoorW.PrintMore
attribute [local go_sem] max2_int min2_int max_two min_two max_three min_three max_four min_four
set_option linter.unusedVariables false
set_option linter.unusedSimpArgs false
mutual
def mandrellaw11_VcodeLines.j0 : Nat → Bool → Int → Int → Bool → List (S80) → Option (Bool)
 | 0, _, _, _, _, _ => none
 | k + 1, x14, x393000, x393001, x393002, x393003 => if x14 = true then ((mandrellaw11_sure.f k).bind fun t395 => (some t395)) else ((mandrellaw11_giveCode.f k x393000 x393001 x393002 x393003).bind fun bt396 => ((vcode_Text.f k bt396.1 bt396.2.1 bt396.2.2.1 bt396.2.2.2).bind fun bt402 => (if bt402.2.isNone = true then (mandrellaw11_VcodeLines.l0 k bt402.1 0 0 0 x393000 x393001 x393002 x393003) else ((mandrellaw11_num.f (some (bt402.2.getD 0))).bind fun t408 => (if t408 = 2 then ((mandrellaw11_sure.f k).bind fun t409 => (some t409)) else (some false))))))
def mandrellaw11_VcodeLines.l0 : Nat → ByteArray → Int → Int → Int → Int → Int → Bool → List (S80) → Option (Bool)
 | 0, _, _, _, _, _, _, _, _ => none
 | k + 1, x3, x5, x6, x7, x393000, x393001, x393002, x393003 => if x7 < (x3.size : Int) then (if 0 ≤ x7 then (if (bt x3 x7) = 10 then (if x7 = 0 then (if (wrap64 (x7 + 1)) < (x3.size : Int) then (if (bt x3 x7) = 32 then (if 0 ≤ (wrap64 (x7 + 1)) then (if (bt x3 (wrap64 (x7 + 1))) = 32 then (mandrellaw11_VcodeLines.l0 k x3 (wrap64 (x5 + 1)) (wrap64 (x6 + 1)) (wrap64 (x7 + 1)) x393000 x393001 x393002 x393003) else (mandrellaw11_VcodeLines.l0 k x3 (wrap64 (x5 + 1)) x6 (wrap64 (x7 + 1)) x393000 x393001 x393002 x393003)) else (none)) else (mandrellaw11_VcodeLines.l0 k x3 (wrap64 (x5 + 1)) x6 (wrap64 (x7 + 1)) x393000 x393001 x393002 x393003)) else (mandrellaw11_VcodeLines.l0 k x3 (wrap64 (x5 + 1)) x6 (wrap64 (x7 + 1)) x393000 x393001 x393002 x393003)) else (if 0 ≤ (wrap64 (x7 - 1)) then (if (wrap64 (x7 - 1)) < (x3.size : Int) then (if (bt x3 (wrap64 (x7 - 1))) = 10 then (if (wrap64 (x7 + 1)) < (x3.size : Int) then (if (bt x3 x7) = 32 then (if 0 ≤ (wrap64 (x7 + 1)) then (if (bt x3 (wrap64 (x7 + 1))) = 32 then (mandrellaw11_VcodeLines.l0 k x3 (wrap64 (x5 + 1)) (wrap64 (x6 + 1)) (wrap64 (x7 + 1)) x393000 x393001 x393002 x393003) else (mandrellaw11_VcodeLines.l0 k x3 (wrap64 (x5 + 1)) x6 (wrap64 (x7 + 1)) x393000 x393001 x393002 x393003)) else (none)) else (mandrellaw11_VcodeLines.l0 k x3 (wrap64 (x5 + 1)) x6 (wrap64 (x7 + 1)) x393000 x393001 x393002 x393003)) else (mandrellaw11_VcodeLines.l0 k x3 (wrap64 (x5 + 1)) x6 (wrap64 (x7 + 1)) x393000 x393001 x393002 x393003)) else (mandrellaw11_VcodeLines.l0 k x3 (wrap64 (x5 + 1)) x6 (wrap64 (x7 + 1)) x393000 x393001 x393002 x393003)) else (none)) else (none))) else (if x7 = 0 then (if (wrap64 (x7 + 1)) < (x3.size : Int) then (if (bt x3 x7) = 32 then (if 0 ≤ (wrap64 (x7 + 1)) then (if (bt x3 (wrap64 (x7 + 1))) = 32 then (mandrellaw11_VcodeLines.l0 k x3 x5 (wrap64 (x6 + 1)) (wrap64 (x7 + 1)) x393000 x393001 x393002 x393003) else (mandrellaw11_VcodeLines.l0 k x3 x5 x6 (wrap64 (x7 + 1)) x393000 x393001 x393002 x393003)) else (none)) else (mandrellaw11_VcodeLines.l0 k x3 x5 x6 (wrap64 (x7 + 1)) x393000 x393001 x393002 x393003)) else (mandrellaw11_VcodeLines.l0 k x3 x5 x6 (wrap64 (x7 + 1)) x393000 x393001 x393002 x393003)) else (if 0 ≤ (wrap64 (x7 - 1)) then (if (wrap64 (x7 - 1)) < (x3.size : Int) then (if (bt x3 (wrap64 (x7 - 1))) = 10 then (if (wrap64 (x7 + 1)) < (x3.size : Int) then (if (bt x3 x7) = 32 then (if 0 ≤ (wrap64 (x7 + 1)) then (if (bt x3 (wrap64 (x7 + 1))) = 32 then (mandrellaw11_VcodeLines.l0 k x3 x5 (wrap64 (x6 + 1)) (wrap64 (x7 + 1)) x393000 x393001 x393002 x393003) else (mandrellaw11_VcodeLines.l0 k x3 x5 x6 (wrap64 (x7 + 1)) x393000 x393001 x393002 x393003)) else (none)) else (mandrellaw11_VcodeLines.l0 k x3 x5 x6 (wrap64 (x7 + 1)) x393000 x393001 x393002 x393003)) else (mandrellaw11_VcodeLines.l0 k x3 x5 x6 (wrap64 (x7 + 1)) x393000 x393001 x393002 x393003)) else (mandrellaw11_VcodeLines.l0 k x3 x5 x6 (wrap64 (x7 + 1)) x393000 x393001 x393002 x393003)) else (none)) else (none)))) else (none)) else ((mandrelref11_Size.f k x393000 x393001 x393002 x393003).bind fun t405 => (if x5 = (wrap64 ((wrap64 (1 + (x393003.length : Int))) + t405)) then ((mandrelref11_Size.f k x393000 x393001 x393002 x393003).bind fun t406 => (if x6 = t406 then ((mandrellaw11_sure.f k).bind fun t407 => (some t407)) else (some false))) else (some false)))
end
def mandrellaw11_VcodeLines.f (k : Nat) (a0_0 : Int) (a0_1 : Int) (a0_2 : Bool) (l0_3 : List (S80)) : Option (Bool) := (mandrellaw11_heavy.f k a0_0 a0_1 a0_2 l0_3).bind fun t393 => (if t393 = true then (mandrellaw11_VcodeLines.j0 k true a0_0 a0_1 a0_2 l0_3) else ((mandrelref11_May.f k a0_0 a0_1 a0_2 l0_3).bind fun t394 => (mandrellaw11_VcodeLines.j0 k (!t394) a0_0 a0_1 a0_2 l0_3)))
def mandrellaw11_VcodeLines.T14 : Bool × List (List Nat × List Nat) := (true, [([], []), ([], []), ([1], [1]), ([2], [2]), ([3], [3]), ([], []), ([5], [5]), ([4, 6], [4, 6]), ([0, 7], [0, 7]), ([8, 6], [8]), ([9], [9]), ([9], [9]), ([11, 9, 9], [9, 11]), ([10, 12, 9], [9, 10, 12]), ([9, 13], [9, 13]), ([14, 12], [14]), ([15, 15], [15]), ([15, 16], [15, 16]), ([17, 16, 0, 1, 2, 3, 4, 5, 6, 7, 8, 9, 10, 11, 12, 13, 14, 15, 16, 17], [17])])
def mandrellaw11_VcodeLines.B14 : List Nat := [0, 0, 2, 6, 14, 0, 32, 126, 255, 511, 1023, 1023, 3071, 8191, 16383, 32767, 65535, 131071, 262143]
theorem mandrellaw11_VcodeLines.tab14 : rtab .any (opsOf Tryz.f4 14) = mandrellaw11_VcodeLines.T14 := Q0
theorem mandrellaw11_VcodeLines.bits14 : waitsOk mandrellaw11_VcodeLines.T14.2 mandrellaw11_VcodeLines.B14 = true := Q0
set_option maxHeartbeats 8000000 in
set_option maxRecDepth 100000 in
theorem mandrellaw11_VcodeLines.calls (k : Nat) (a0_0 : Int) (a0_1 : Int) (a0_2 : Bool) (A0_3 : Option Addr) (c0_3 : Nat) (l0_3 : List (S80)) (r : Bool) (w : World) (hr0_3 : Kd.C k80 w A0_3 l0_3.length l0_3) (hc0_3 : l0_3.length ≤ c0_3) (hG : GG [0, 1, 4] w) (h : mandrellaw11_VcodeLines.f k a0_0 a0_1 a0_2 l0_3 = some r) :
  Calls Tryz.prog 4 #[.agg #[.int .i64 a0_0, .int .i64 a0_1, .bool a0_2, .slice A0_3 l0_3.length c0_3]] w fun e w' => e = .returned (.bool r) ∧ Below w.heap.size w w' := by
 have hu24 := Tryz.underlying24
 have hu30 := Tryz.underlying30
 have hu104 := Tryz.underlying104
 have HR0_3 := Aside0.mk hr0_3
 have HC0_3 := Aside0.mk hc0_3
 clear hr0_3 hc0_3
 have HB := Aside0.mk (Below.refl w.heap.size w)
 have HG := Aside0.mk hG
 clear hG
 have H : ((mandrellaw11_heavy.f k a0_0 a0_1 a0_2 l0_3).bind fun t393 => (if t393 = true then (mandrellaw11_VcodeLines.j0 k true a0_0 a0_1 a0_2 l0_3) else ((mandrelref11_May.f k a0_0 a0_1 a0_2 l0_3).bind fun t394 => (mandrellaw11_VcodeLines.j0 k (!t394) a0_0 a0_1 a0_2 l0_3)))) = some r := h
 clear h
 have HC2 := Aside0.mk H
 clear H
 go_enter Tryz.func4, Tryz.ntmps4
 go_upto_region 1 with (first | ((with_reducible refine gate_dst (N := 1) rfl ?_); (try (refine gate_guard Q2 ?_; dsimp only)); refine box_event ?hg (N := 1) ?hd (cs := #[.int .i64 a0_0, .int .i64 a0_1, .bool a0_2, .slice A0_3 l0_3.length c0_3]) (t := 24) ?hr ?_; (case hd => rfl); (case hg => rfl); (case hr => first | (go_simp; done) | (go_simp; rfl)); intro gb392 hg w3 hbox hb; have n0_ := Aside0.mk (below_step Q1 hb); have n1_ := Aside0.mk (hbox); have n2_ := Aside0.mk ((Q155 : w.heap.size ≤ gb392)); have n3_ := Aside0.mk ((Q155 : w.heap.size ≤ gb392)); clear HB; have HB := n0_; have BK392 := n1_; have GW392 := n2_; have GE392 := n3_; clear n0_ n1_ n2_ n3_; clear hb hbox hg))
 (try simp only [Act.put, List.setIfInBounds_toArray, List.set_cons_zero, List.set_cons_succ])
 go_cut [14] (fun v14 wc => ∃ (kq : Nat) (x14_1 : Bool), v14 = .bool x14_1 ∧ Aside0 (mandrellaw11_VcodeLines.j0 kq x14_1 a0_0 a0_1 a0_2 l0_3 = some r) ∧ Aside0 (kq ≤ k) ∧ Aside0 (wc.heap[gb392]? = some (.cells #[.int .i64 a0_0, .int .i64 a0_1, .bool a0_2, (.slice A0_3 l0_3.length c0_3)] 24 (0, 0))) ∧ Aside0 (Below w.heap.size w wc))
 case first =>
  have H := HC2.out
  clear HC2
  replace H := Option.bind_eq_some_iff.mp H
  obtain ⟨t393, A40, H⟩ := H
  replace H : (if t393 = true then (mandrellaw11_VcodeLines.j0 k true a0_0 a0_1 a0_2 l0_3) else ((mandrelref11_May.f k a0_0 a0_1 a0_2 l0_3).bind fun t394 => (mandrellaw11_VcodeLines.j0 k (!t394) a0_0 a0_1 a0_2 l0_3))) = some r := H
  have A4 := Aside0.mk A40
  clear A40
  by_cases c5 : t393 = true
  ·subst c5
   have H1 : (mandrellaw11_VcodeLines.j0 k true a0_0 a0_1 a0_2 l0_3) = some r := Q14
   clear H
   have H := H1
   clear H1
   have H' := Aside0.mk H
   clear H
   have ⟨hcz6_0, hcz6_1, hcz6_2, hcz6_3, hfz6_0, hfz6_1, hfz6_2, hfz6_3⟩ := blk4 BK392.out
   go_wp2_with (first | ((with_reducible refine gate_callee (f := 16) rfl ?_); refine goesL_ (some 9) rfl rfl Tryz.func16 Q0 rfl #[.agg #[.int .i64 a0_0, .int .i64 a0_1, .bool a0_2, .slice A0_3 l0_3.length c0_3]] rfl Q9 ?_; (with_reducible refine (mandrellaw11_heavy.calls k a0_0 a0_1 a0_2 _ _ l0_3 true _ ?side1 ?side2 ?side3 A4.out).mono ?_); (case side1 => repeat (first | exact (Kd.C_below HR0_3.out HB.out) | (with_reducible refine Kd.C_alloc ?_ _) | (with_reducible refine Kd.C_drewN ?_ _) | (with_reducible refine Kd.C_drew ?_))); (case side2 => exact HC0_3.out); (case side3 => exact GG.nil _); rintro e w7 ⟨rfl, hb⟩; refine ⟨_, rfl, ?_⟩; have n0_ := Aside0.mk (blk_below (g := gb392) (o := .cells #[.int .i64 a0_0, .int .i64 a0_1, .bool a0_2, .slice A0_3 l0_3.length c0_3] 24 (0, 0)) Q22 hb); have n1_ := Aside0.mk (below_step Q13 hb); clear BK392; clear HB; have BK392 := n0_; have HB := n1_; clear n0_ n1_; (try clear hb); (try clear hb2); (try clear hk); (try clear hi)))
   go_meet
   case rel => exact ⟨_, (true), Q3, H', ⟨Q15⟩, ⟨Q22⟩, ⟨Q13⟩⟩
  replace c5 := Bool.eq_false_iff.mpr c5
  subst c5
  have H1 : ((mandrelref11_May.f k a0_0 a0_1 a0_2 l0_3).bind fun t394 => (mandrellaw11_VcodeLines.j0 k (!t394) a0_0 a0_1 a0_2 l0_3)) = some r := by rw [if_neg (show ¬ (false = true) by decide)] at H; exact H
  clear H
  have H := H1
  clear H1
  replace H := Option.bind_eq_some_iff.mp H
  obtain ⟨t394, A80, H⟩ := H
  replace H : (mandrellaw11_VcodeLines.j0 k (!t394) a0_0 a0_1 a0_2 l0_3) = some r := H
  have A8 := Aside0.mk A80
  clear A80
  have H' := Aside0.mk H
  clear H
  have ⟨hcz9_0, hcz9_1, hcz9_2, hcz9_3, hfz9_0, hfz9_1, hfz9_2, hfz9_3⟩ := blk4 BK392.out
  go_wp2_with (first | ((with_reducible refine gate_callee (f := 16) rfl ?_); refine goesL_ (some 9) rfl rfl Tryz.func16 Q0 rfl #[.agg #[.int .i64 a0_0, .int .i64 a0_1, .bool a0_2, .slice A0_3 l0_3.length c0_3]] rfl Q9 ?_; (with_reducible refine (mandrellaw11_heavy.calls k a0_0 a0_1 a0_2 _ _ l0_3 false _ ?side1 ?side2 ?side3 A4.out).mono ?_); (case side1 => repeat (first | exact (Kd.C_below HR0_3.out HB.out) | (with_reducible refine Kd.C_alloc ?_ _) | (with_reducible refine Kd.C_drewN ?_ _) | (with_reducible refine Kd.C_drew ?_))); (case side2 => exact HC0_3.out); (case side3 => exact GG.nil _); rintro e w10 ⟨rfl, hb⟩; refine ⟨_, rfl, ?_⟩; have n0_ := Aside0.mk (blk_below (g := gb392) (o := .cells #[.int .i64 a0_0, .int .i64 a0_1, .bool a0_2, .slice A0_3 l0_3.length c0_3] 24 (0, 0)) Q22 hb); have n1_ := Aside0.mk (below_step Q13 hb); clear BK392; clear HB; have BK392 := n0_; have HB := n1_; clear n0_ n1_; (try clear hb); (try clear hb2); (try clear hk); (try clear hi); have hcz11_0 : w10.cell? ⟨gb392, 0, none⟩ = some (.int .i64 a0_0) := (blk_cell BK392.out 0).trans rfl; have hcz11_1 : w10.cell? ⟨gb392, 1, none⟩ = some (.int .i64 a0_1) := (blk_cell BK392.out 1).trans rfl; have hcz11_2 : w10.cell? ⟨gb392, 2, none⟩ = some (.bool a0_2) := (blk_cell BK392.out 2).trans rfl; have hcz11_3 : w10.cell? ⟨gb392, 3, none⟩ = some (.slice A0_3 l0_3.length c0_3) := (blk_cell BK392.out 3).trans rfl; have hfz11_0 := blk_frozen BK392.out 0; have hfz11_1 := blk_frozen BK392.out 1; have hfz11_2 := blk_frozen BK392.out 2; have hfz11_3 := blk_frozen BK392.out 3) | (go_at_call 12; (with_reducible refine (mandrelref11_May.calls k a0_0 a0_1 a0_2 _ _ l0_3 t394 _ ?side1 ?side2 ?side3 A8.out).mono ?_); (case side1 => repeat (first | exact (Kd.C_below HR0_3.out HB.out) | (with_reducible refine Kd.C_alloc ?_ _) | (with_reducible refine Kd.C_drewN ?_ _) | (with_reducible refine Kd.C_drew ?_))); (case side2 => exact HC0_3.out); (case side3 => exact GG.nil _); rintro e w12 ⟨rfl, hb⟩; have n0_ := Aside0.mk (blk_below (g := gb392) (o := .cells #[.int .i64 a0_0, .int .i64 a0_1, .bool a0_2, .slice A0_3 l0_3.length c0_3] 24 (0, 0)) Q22 hb); have n1_ := Aside0.mk (below_step Q13 hb); clear BK392; clear HB; have BK392 := n0_; have HB := n1_; clear n0_ n1_; (try clear hb); (try clear hb2); (try clear hk); (try clear hi)))
  go_meet
  case rel => exact ⟨_, (!t394), Q3, H', ⟨Q15⟩, ⟨Q22⟩, ⟨Q13⟩⟩
 case rest =>
  clear HC2
  obtain ⟨kq, x14_1, rfl, HA, HJ1, BK392, HB⟩ := hcut
  cases kq with
  | zero => exact absurd HA.out (by simp [mandrellaw11_VcodeLines.j0])
  | succ kj1 =>
   have H := HA.out
   clear HA
   simp only [mandrellaw11_VcodeLines.j0] at H
   by_cases c13 : x14_1 = true
   ·subst c13
    have H1 : ((mandrellaw11_sure.f kj1).bind fun t395 => (some t395)) = some r := Q14
    clear H
    have H := H1
    clear H1
    replace H := Option.bind_eq_some_iff.mp H
    obtain ⟨t395, A140, H⟩ := H
    replace H : (some t395) = some r := H
    have A14 := Aside0.mk A140
    clear A140
    obtain rfl := Option.some.inj H
    go_wp2_with (first | ((with_reducible refine gate_callee (f := 17) rfl ?_); refine goesL_ (some 15) rfl rfl Tryz.func17 Q0 rfl #[] rfl Q9 ?_; (with_reducible refine (mandrellaw11_sure.calls kj1  t395 _ ?side1 A14.out).mono ?_); (case side1 => exact GG.sub (GG.below Q13 HG.out) Q12); rintro e w15 ⟨rfl, hb⟩; refine ⟨_, rfl, ?_⟩; have n0_ := Aside0.mk (blk_below (g := gb392) (o := .cells #[.int .i64 a0_0, .int .i64 a0_1, .bool a0_2, .slice A0_3 l0_3.length c0_3] 24 (0, 0)) Q22 hb); have n1_ := Aside0.mk (below_step Q13 hb); clear BK392; clear HB; have BK392 := n0_; have HB := n1_; clear n0_ n1_; (try clear hb); (try clear hb2); (try clear hk); (try clear hi)))
    go_ret
    exact ⟨Q6, Q13⟩
   replace c13 := Bool.eq_false_iff.mpr c13
   subst c13
   have H1 : ((mandrellaw11_giveCode.f kj1 a0_0 a0_1 a0_2 l0_3).bind fun bt396 => ((vcode_Text.f kj1 bt396.1 bt396.2.1 bt396.2.2.1 bt396.2.2.2).bind fun bt402 => (if bt402.2.isNone = true then (mandrellaw11_VcodeLines.l0 kj1 bt402.1 0 0 0 a0_0 a0_1 a0_2 l0_3) else ((mandrellaw11_num.f (some (bt402.2.getD 0))).bind fun t408 => (if t408 = 2 then ((mandrellaw11_sure.f kj1).bind fun t409 => (some t409)) else (some false)))))) = some r := by rw [if_neg (show ¬ (false = true) by decide)] at H; exact H
   clear H
   have H := H1
   clear H1
   replace H := Option.bind_eq_some_iff.mp H
   obtain ⟨⟨t396, t397, t398, t399⟩, A160, H⟩ := H
   replace H : ((vcode_Text.f kj1 t396 t397 t398 t399).bind fun bt402 => (if bt402.2.isNone = true then (mandrellaw11_VcodeLines.l0 kj1 bt402.1 0 0 0 a0_0 a0_1 a0_2 l0_3) else ((mandrellaw11_num.f (some (bt402.2.getD 0))).bind fun t408 => (if t408 = 2 then ((mandrellaw11_sure.f kj1).bind fun t409 => (some t409)) else (some false))))) = some r := H
   have A16 := Aside0.mk A160
   clear A160
   replace H := Option.bind_eq_some_iff.mp H
   obtain ⟨⟨t402, t403⟩, A170, H⟩ := H
   replace H : (if t403.isNone = true then (mandrellaw11_VcodeLines.l0 kj1 t402 0 0 0 a0_0 a0_1 a0_2 l0_3) else ((mandrellaw11_num.f (some (t403.getD 0))).bind fun t408 => (if t408 = 2 then ((mandrellaw11_sure.f kj1).bind fun t409 => (some t409)) else (some false)))) = some r := H
   have A17 := Aside0.mk A170
   clear A170
   rcases t403 with _ | q404
   ·have H1 : (mandrellaw11_VcodeLines.l0 kj1 t402 0 0 0 a0_0 a0_1 a0_2 l0_3) = some r := by rw [if_pos (show (none : Option Int).isNone = true by rfl)] at H; exact H
    clear H
    have H := H1
    clear H1
    try simp only [errW_none, errW_some]
    have H' := Aside0.mk H
    clear H
    have ⟨hcz18_0, hcz18_1, hcz18_2, hcz18_3, hfz18_0, hfz18_1, hfz18_2, hfz18_3⟩ := blk4 BK392.out
    go_wp2_with (first | ((with_reducible refine gate_callee (f := 19) rfl ?_); refine goesL_ (some 18) rfl rfl Tryz.func19 Q0 rfl #[.agg #[.int .i64 a0_0, .int .i64 a0_1, .bool a0_2, .slice A0_3 l0_3.length c0_3]] rfl Q9 ?_; (with_reducible refine (mandrellaw11_giveCode.calls kj1 a0_0 a0_1 a0_2 (fun k_ => k_ < w.heap.size) _ _ l0_3 t396 t397 t398 t399 _ ?side1 ?side2 A16.out).mono ?_); (case side1 => exact Kd.V_mk HC0_3.out (Kd.F_below (Kd.C_F k80_heap HR0_3.out) Q13)); (case side2 => exact GG.nil _); rintro e w19 ⟨v400, rfl, ho0, hb⟩; refine ⟨_, rfl, ?_⟩; have n0_ := Aside0.mk (Kd.N_lower (Kd.N_mono (ok' := fun k_ => k_ ≠ gb392) ho0 (fun k_ hk_ => Or.elim hk_ (fun hs_ => fun e_ => Nat.not_le.2 hs_ (by rw [e_]; exact GW392.out)) (fun hn_ => (Kd.freshB (g := gb392) (o := .cells #[.int .i64 a0_0, .int .i64 a0_1, .bool a0_2, .slice A0_3 l0_3.length c0_3] 24 (0, 0)) Q22 k_ hn_)))) (below_size Q13)); have n1_ := Aside0.mk (blk_below (g := gb392) (o := .cells #[.int .i64 a0_0, .int .i64 a0_1, .bool a0_2, .slice A0_3 l0_3.length c0_3] 24 (0, 0)) Q22 hb); have n2_ := Aside0.mk (below_step Q13 hb); clear BK392; clear HB; have HO401 := n0_; have BK392 := n1_; have HB := n2_; clear n0_ n1_ n2_; (try clear hb); (try clear hb2); (try clear hk); (try clear hi); (try clear ho0); obtain ⟨Ao20, co20, eo20⟩ := Kd.N_slice HO401.out; subst eo20) | ((with_reducible refine gate_callee (f := 18) rfl ?_); refine goesL_ (some 19) rfl rfl Tryz.func18 Q0 rfl #[.agg #[.int .i64 t396, .int .i64 t397, .bool t398, .slice Ao20 t399.length co20]] rfl Q9 ?_; (with_reducible refine (vcode_Text.calls kj1 t396 t397 t398 _ _ t399 t402 none _ ?side1 ?side2 ?side3 A17.out).mono ?_); (case side1 => repeat (first | exact (Kd.N_reads' HO401.out).2.2 | (with_reducible refine Kd.C_alloc ?_ _) | (with_reducible refine Kd.C_drewN ?_ _) | (with_reducible refine Kd.C_drew ?_))); (case side2 => exact (Kd.N_reads' HO401.out).2.1); (case side3 => exact GG.sub (GG.below Q13 HG.out) Q12); rintro e w21 ⟨rfl, hb⟩; refine ⟨_, rfl, ?_⟩; have n0_ := Aside0.mk (Kd.N_below Q61 hb); have n1_ := Aside0.mk (blk_below (g := gb392) (o := .cells #[.int .i64 a0_0, .int .i64 a0_1, .bool a0_2, .slice A0_3 l0_3.length c0_3] 24 (0, 0)) Q22 hb); have n2_ := Aside0.mk (below_step Q13 hb); clear HO401; clear BK392; clear HB; have HO401 := n0_; have BK392 := n1_; have HB := n2_; clear n0_ n1_ n2_; (try clear hb); (try clear hb2); (try clear hk); (try clear hi); (try simp only [errW_none, errW_some])))
    go_loopg [5, 6, 7] kj1 (fun kq v5 v6 v7 w' => ∃ (x5_2 : Int) (x6_2 : Int) (x7_2 : Int), v5 = .int .i64 x5_2 ∧ v6 = .int .i64 x6_2 ∧ v7 = .int .i64 x7_2 ∧ Aside0 (mandrellaw11_VcodeLines.l0 kq t402 x5_2 x6_2 x7_2 a0_0 a0_1 a0_2 l0_3 = some r) ∧ Aside0 (kq ≤ kj1) ∧ Aside0 (w'.heap[gb392]? = some (.cells #[.int .i64 a0_0, .int .i64 a0_1, .bool a0_2, (.slice A0_3 l0_3.length c0_3)] 24 (0, 0))) ∧ Aside0 (Below w.heap.size w w'))
    case atStart => exact ⟨(0), (0), (0), Q3, Q3, Q3, H', ⟨Nat.le_refl _⟩, ⟨Q22⟩, ⟨Q13⟩⟩
    case round =>
     clear H'
     try clear q4
     try clear c13
     try clear hcz18_0 hcz18_1 hcz18_2 hcz18_3 hfz18_0 hfz18_1 hfz18_2 hfz18_3
     try clear q404
     obtain ⟨x5_2, x6_2, x7_2, rfl, rfl, rfl, HA, HK2, BK392, HB⟩ := hrel
     cases gk with
     | zero => exact absurd HA.out (by simp [mandrellaw11_VcodeLines.l0])
     | succ k2 =>
      have H := HA.out
      clear HA
      simp only [mandrellaw11_VcodeLines.l0] at H
      by_cases c22 : x7_2 < (t402.size : Int)
      ·rw [if_pos c22] at H
       have c22b0 : decide (x7_2 < (t402.size : Int)) = true := decide_eq_true c22
       clear c22
       by_cases c23 : 0 ≤ x7_2
       ·rw [if_pos c23] at H
        have c23b0 : decide (0 ≤ x7_2) = true := decide_eq_true c23
        clear c23
        by_cases c25 : (bt t402 x7_2) = 10
        ·rw [if_pos c25] at H
         have c25b0 : ((bt t402 x7_2) == 10) = true := beq_iff_eq.mpr c25
         have c25b1 : ((bt t402 x7_2) != 10) = false := bne_eq_false_iff_eq.mpr c25
         clear c25
         by_cases c26 : x7_2 = 0
         ·rw [if_pos c26] at H
          have c26b0 : (x7_2 == 0) = true := beq_iff_eq.mpr c26
          have c26b1 : (x7_2 != 0) = false := bne_eq_false_iff_eq.mpr c26
          clear c26
          by_cases c27 : (wrap64 (x7_2 + 1)) < (t402.size : Int)
          ·rw [if_pos c27] at H
           have c27b0 : decide ((wrap64 (x7_2 + 1)) < (t402.size : Int)) = true := decide_eq_true c27
           clear c27
           by_cases c29 : (bt t402 x7_2) = 32
           ·rw [if_pos c29] at H
            have c29b0 : ((bt t402 x7_2) == 32) = true := beq_iff_eq.mpr c29
            have c29b1 : ((bt t402 x7_2) != 32) = false := bne_eq_false_iff_eq.mpr c29
            clear c29
            obtain ⟨ji30, hji30⟩ : ∃ j_ : Int, (wrap64 (x7_2 + 1)) = j_ := ⟨_, rfl⟩
            replace H : (if 0 ≤ (ji30) then (if (bt t402 (ji30)) = 32 then (mandrellaw11_VcodeLines.l0 k2 t402 (wrap64 (x5_2 + 1)) (wrap64 (x6_2 + 1)) ji30 a0_0 a0_1 a0_2 l0_3) else (mandrellaw11_VcodeLines.l0 k2 t402 (wrap64 (x5_2 + 1)) x6_2 ji30 a0_0 a0_1 a0_2 l0_3)) else (none)) = some r := Q135
            (try rw [hji30] at c27b0)
            have hji30w : (IntKind.i64.wrap (x7_2 + 1)) = ji30 := (i64_w _).trans hji30
            by_cases c31 : 0 ≤ (ji30)
            ·rw [if_pos c31] at H
             have c31b0 : decide (0 ≤ (ji30)) = true := decide_eq_true c31
             clear c31
             by_cases c33 : (bt t402 (ji30)) = 32
             ·rw [if_pos c33] at H
              have c33b0 : ((bt t402 (ji30)) == 32) = true := beq_iff_eq.mpr c33
              have c33b1 : ((bt t402 (ji30)) != 32) = false := bne_eq_false_iff_eq.mpr c33
              clear c33
              have H' := Aside0.mk H
              clear H
              have p24 : 0 ≤ (x7_2 : Int) := of_decide_eq_true Q4
              have q24 : x7_2 < (t402.size : Int) := of_decide_eq_true Q4
              have hx24 := bt_at t402 x7_2
              replace p24 := eq_true p24
              replace q24 := eq_true q24
              have p28 : 0 ≤ (x7_2 : Int) := of_decide_eq_true Q4
              have q28 : x7_2 < (t402.size : Int) := of_decide_eq_true Q4
              have hx28 := bt_at t402 x7_2
              replace p28 := eq_true p28
              replace q28 := eq_true q28
              have p32 : 0 ≤ ((ji30) : Int) := of_decide_eq_true Q4
              have q32 : (ji30) < (t402.size : Int) := of_decide_eq_true Q4
              have hx32 := bt_at t402 (ji30)
              replace p32 := eq_true p32
              replace q32 := eq_true q32
              go_wp2
              go_roundg k2
              case measure => have := HJ1.out; have := HK2.out; omega
              case rel => exact ⟨(wrap64 (x5_2 + 1)), (wrap64 (x6_2 + 1)), (ji30), Q3, Q3, Q144, H', ⟨Q33⟩, ⟨Q22⟩, ⟨Q13⟩⟩
             rw [if_neg c33] at H
             have c33b0 : ((bt t402 (ji30)) == 32) = false := beq_eq_false_iff_ne.mpr c33
             have c33b1 : ((bt t402 (ji30)) != 32) = true := bne_iff_ne.mpr c33
             have H' := Aside0.mk H
             clear H
             have p24 : 0 ≤ (x7_2 : Int) := of_decide_eq_true Q4
             have q24 : x7_2 < (t402.size : Int) := of_decide_eq_true Q4
             have hx24 := bt_at t402 x7_2
             replace p24 := eq_true p24
             replace q24 := eq_true q24
             have p28 : 0 ≤ (x7_2 : Int) := of_decide_eq_true Q4
             have q28 : x7_2 < (t402.size : Int) := of_decide_eq_true Q4
             have hx28 := bt_at t402 x7_2
             replace p28 := eq_true p28
             replace q28 := eq_true q28
             have p32 : 0 ≤ ((ji30) : Int) := of_decide_eq_true Q4
             have q32 : (ji30) < (t402.size : Int) := of_decide_eq_true Q4
             have hx32 := bt_at t402 (ji30)
             replace p32 := eq_true p32
             replace q32 := eq_true q32
             go_wp2
             go_roundg k2
             case measure => have := HJ1.out; have := HK2.out; omega
             case rel => exact ⟨(wrap64 (x5_2 + 1)), (x6_2), (ji30), Q3, Q3, Q144, H', ⟨Q33⟩, ⟨Q22⟩, ⟨Q13⟩⟩
            rw [if_neg c31] at H
            exact absurd H Q8
           rw [if_neg c29] at H
           have c29b0 : ((bt t402 x7_2) == 32) = false := beq_eq_false_iff_ne.mpr c29
           have c29b1 : ((bt t402 x7_2) != 32) = true := bne_iff_ne.mpr c29
           have H' := Aside0.mk H
           clear H
           have p24 : 0 ≤ (x7_2 : Int) := of_decide_eq_true Q4
           have q24 : x7_2 < (t402.size : Int) := of_decide_eq_true Q4
           have hx24 := bt_at t402 x7_2
           replace p24 := eq_true p24
           replace q24 := eq_true q24
           have p28 : 0 ≤ (x7_2 : Int) := of_decide_eq_true Q4
           have q28 : x7_2 < (t402.size : Int) := of_decide_eq_true Q4
           have hx28 := bt_at t402 x7_2
           replace p28 := eq_true p28
           replace q28 := eq_true q28
           go_wp2
           go_roundg k2
           case measure => have := HJ1.out; have := HK2.out; omega
           case rel => exact ⟨(wrap64 (x5_2 + 1)), (x6_2), (wrap64 (x7_2 + 1)), Q3, Q3, Q3, H', ⟨Q33⟩, ⟨Q22⟩, ⟨Q13⟩⟩
          rw [if_neg c27] at H
          have c27b0 : decide ((wrap64 (x7_2 + 1)) < (t402.size : Int)) = false := decide_eq_false c27
          clear c27
          have H' := Aside0.mk H
          clear H
          have p24 : 0 ≤ (x7_2 : Int) := of_decide_eq_true Q4
          have q24 : x7_2 < (t402.size : Int) := of_decide_eq_true Q4
          have hx24 := bt_at t402 x7_2
          replace p24 := eq_true p24
          replace q24 := eq_true q24
          go_wp2
          go_roundg k2
          case measure => have := HJ1.out; have := HK2.out; omega
          case rel => exact ⟨(wrap64 (x5_2 + 1)), (x6_2), (wrap64 (x7_2 + 1)), Q3, Q3, Q3, H', ⟨Q33⟩, ⟨Q22⟩, ⟨Q13⟩⟩
         rw [if_neg c26] at H
         have c26b0 : (x7_2 == 0) = false := beq_eq_false_iff_ne.mpr c26
         have c26b1 : (x7_2 != 0) = true := bne_iff_ne.mpr c26
         obtain ⟨ji34, hji34⟩ : ∃ j_ : Int, (wrap64 (x7_2 - 1)) = j_ := ⟨_, rfl⟩
         replace H : (if 0 ≤ (ji34) then (if (ji34) < (t402.size : Int) then (if (bt t402 (ji34)) = 10 then (if (wrap64 (x7_2 + 1)) < (t402.size : Int) then (if (bt t402 x7_2) = 32 then (if 0 ≤ (wrap64 (x7_2 + 1)) then (if (bt t402 (wrap64 (x7_2 + 1))) = 32 then (mandrellaw11_VcodeLines.l0 k2 t402 (wrap64 (x5_2 + 1)) (wrap64 (x6_2 + 1)) (wrap64 (x7_2 + 1)) a0_0 a0_1 a0_2 l0_3) else (mandrellaw11_VcodeLines.l0 k2 t402 (wrap64 (x5_2 + 1)) x6_2 (wrap64 (x7_2 + 1)) a0_0 a0_1 a0_2 l0_3)) else (none)) else (mandrellaw11_VcodeLines.l0 k2 t402 (wrap64 (x5_2 + 1)) x6_2 (wrap64 (x7_2 + 1)) a0_0 a0_1 a0_2 l0_3)) else (mandrellaw11_VcodeLines.l0 k2 t402 (wrap64 (x5_2 + 1)) x6_2 (wrap64 (x7_2 + 1)) a0_0 a0_1 a0_2 l0_3)) else (mandrellaw11_VcodeLines.l0 k2 t402 (wrap64 (x5_2 + 1)) x6_2 (wrap64 (x7_2 + 1)) a0_0 a0_1 a0_2 l0_3)) else (none)) else (none)) = some r := by first | (rw [hji34] at H; exact H) | (simp only [hji34] at H ⊢; exact H)
         have hji34w : (IntKind.i64.wrap (x7_2 - 1)) = ji34 := (i64_w _).trans hji34
         by_cases c35 : 0 ≤ (ji34)
         ·rw [if_pos c35] at H
          have c35b0 : decide (0 ≤ (ji34)) = true := decide_eq_true c35
          clear c35
          by_cases c36 : (ji34) < (t402.size : Int)
          ·rw [if_pos c36] at H
           have c36b0 : decide ((ji34) < (t402.size : Int)) = true := decide_eq_true c36
           clear c36
           by_cases c38 : (bt t402 (ji34)) = 10
           ·rw [if_pos c38] at H
            have c38b0 : ((bt t402 (ji34)) == 10) = true := beq_iff_eq.mpr c38
            have c38b1 : ((bt t402 (ji34)) != 10) = false := bne_eq_false_iff_eq.mpr c38
            clear c38
            by_cases c39 : (wrap64 (x7_2 + 1)) < (t402.size : Int)
            ·rw [if_pos c39] at H
             have c39b0 : decide ((wrap64 (x7_2 + 1)) < (t402.size : Int)) = true := decide_eq_true c39
             clear c39
             by_cases c41 : (bt t402 x7_2) = 32
             ·rw [if_pos c41] at H
              have c41b0 : ((bt t402 x7_2) == 32) = true := beq_iff_eq.mpr c41
              have c41b1 : ((bt t402 x7_2) != 32) = false := bne_eq_false_iff_eq.mpr c41
              clear c41
              obtain ⟨ji42, hji42⟩ : ∃ j_ : Int, (wrap64 (x7_2 + 1)) = j_ := ⟨_, rfl⟩
              replace H : (if 0 ≤ (ji42) then (if (bt t402 (ji42)) = 32 then (mandrellaw11_VcodeLines.l0 k2 t402 (wrap64 (x5_2 + 1)) (wrap64 (x6_2 + 1)) ji42 a0_0 a0_1 a0_2 l0_3) else (mandrellaw11_VcodeLines.l0 k2 t402 (wrap64 (x5_2 + 1)) x6_2 ji42 a0_0 a0_1 a0_2 l0_3)) else (none)) = some r := by first | (rw [hji42] at H; exact H) | (simp only [hji42] at H ⊢; exact H)
              (try rw [hji42] at c39b0)
              have hji42w : (IntKind.i64.wrap (x7_2 + 1)) = ji42 := (i64_w _).trans hji42
              by_cases c43 : 0 ≤ (ji42)
              ·rw [if_pos c43] at H
               have c43b0 : decide (0 ≤ (ji42)) = true := decide_eq_true c43
               clear c43
               by_cases c45 : (bt t402 (ji42)) = 32
               ·rw [if_pos c45] at H
                have c45b0 : ((bt t402 (ji42)) == 32) = true := beq_iff_eq.mpr c45
                have c45b1 : ((bt t402 (ji42)) != 32) = false := bne_eq_false_iff_eq.mpr c45
                clear c45
                have H' := Aside0.mk H
                clear H
                have p24 : 0 ≤ (x7_2 : Int) := of_decide_eq_true Q4
                have q24 : x7_2 < (t402.size : Int) := of_decide_eq_true Q4
                have hx24 := bt_at t402 x7_2
                replace p24 := eq_true p24
                replace q24 := eq_true q24
                have p37 : 0 ≤ ((ji34) : Int) := of_decide_eq_true Q4
                have q37 : (ji34) < (t402.size : Int) := of_decide_eq_true Q4
                have hx37 := bt_at t402 (ji34)
                replace p37 := eq_true p37
                replace q37 := eq_true q37
                have p40 : 0 ≤ (x7_2 : Int) := of_decide_eq_true Q4
                have q40 : x7_2 < (t402.size : Int) := of_decide_eq_true Q4
                have hx40 := bt_at t402 x7_2
                replace p40 := eq_true p40
                replace q40 := eq_true q40
                have p44 : 0 ≤ ((ji42) : Int) := of_decide_eq_true Q4
                have q44 : (ji42) < (t402.size : Int) := of_decide_eq_true Q4
                have hx44 := bt_at t402 (ji42)
                replace p44 := eq_true p44
                replace q44 := eq_true q44
                go_wp2
                go_roundg k2
                case measure => have := HJ1.out; have := HK2.out; omega
                case rel => exact ⟨(wrap64 (x5_2 + 1)), (wrap64 (x6_2 + 1)), (ji42), Q3, Q3, Q145, H', ⟨Q33⟩, ⟨Q22⟩, ⟨Q13⟩⟩
               rw [if_neg c45] at H
               have c45b0 : ((bt t402 (ji42)) == 32) = false := beq_eq_false_iff_ne.mpr c45
               have c45b1 : ((bt t402 (ji42)) != 32) = true := bne_iff_ne.mpr c45
               have H' := Aside0.mk H
               clear H
               have p24 : 0 ≤ (x7_2 : Int) := of_decide_eq_true Q4
               have q24 : x7_2 < (t402.size : Int) := of_decide_eq_true Q4
               have hx24 := bt_at t402 x7_2
               replace p24 := eq_true p24
               replace q24 := eq_true q24
               have p37 : 0 ≤ ((ji34) : Int) := of_decide_eq_true Q4
               have q37 : (ji34) < (t402.size : Int) := of_decide_eq_true Q4
               have hx37 := bt_at t402 (ji34)
               replace p37 := eq_true p37
               replace q37 := eq_true q37
               have p40 : 0 ≤ (x7_2 : Int) := of_decide_eq_true Q4
               have q40 : x7_2 < (t402.size : Int) := of_decide_eq_true Q4
               have hx40 := bt_at t402 x7_2
               replace p40 := eq_true p40
               replace q40 := eq_true q40
               have p44 : 0 ≤ ((ji42) : Int) := of_decide_eq_true Q4
               have q44 : (ji42) < (t402.size : Int) := of_decide_eq_true Q4
               have hx44 := bt_at t402 (ji42)
               replace p44 := eq_true p44
               replace q44 := eq_true q44
               go_wp2
               go_roundg k2
               case measure => have := HJ1.out; have := HK2.out; omega
               case rel => exact ⟨(wrap64 (x5_2 + 1)), (x6_2), (ji42), Q3, Q3, Q145, H', ⟨Q33⟩, ⟨Q22⟩, ⟨Q13⟩⟩
              rw [if_neg c43] at H
              exact absurd H Q8
             rw [if_neg c41] at H
             have c41b0 : ((bt t402 x7_2) == 32) = false := beq_eq_false_iff_ne.mpr c41
             have c41b1 : ((bt t402 x7_2) != 32) = true := bne_iff_ne.mpr c41
             have H' := Aside0.mk H
             clear H
             have p24 : 0 ≤ (x7_2 : Int) := of_decide_eq_true Q4
             have q24 : x7_2 < (t402.size : Int) := of_decide_eq_true Q4
             have hx24 := bt_at t402 x7_2
             replace p24 := eq_true p24
             replace q24 := eq_true q24
             have p37 : 0 ≤ ((ji34) : Int) := of_decide_eq_true Q4
             have q37 : (ji34) < (t402.size : Int) := of_decide_eq_true Q4
             have hx37 := bt_at t402 (ji34)
             replace p37 := eq_true p37
             replace q37 := eq_true q37
             have p40 : 0 ≤ (x7_2 : Int) := of_decide_eq_true Q4
             have q40 : x7_2 < (t402.size : Int) := of_decide_eq_true Q4
             have hx40 := bt_at t402 x7_2
             replace p40 := eq_true p40
             replace q40 := eq_true q40
             go_wp2
             go_roundg k2
             case measure => have := HJ1.out; have := HK2.out; omega
             case rel => exact ⟨(wrap64 (x5_2 + 1)), (x6_2), (wrap64 (x7_2 + 1)), Q3, Q3, Q3, H', ⟨Q33⟩, ⟨Q22⟩, ⟨Q13⟩⟩
            rw [if_neg c39] at H
            have c39b0 : decide ((wrap64 (x7_2 + 1)) < (t402.size : Int)) = false := decide_eq_false c39
            clear c39
            have H' := Aside0.mk H
            clear H
            have p24 : 0 ≤ (x7_2 : Int) := of_decide_eq_true Q4
            have q24 : x7_2 < (t402.size : Int) := of_decide_eq_true Q4
            have hx24 := bt_at t402 x7_2
            replace p24 := eq_true p24
            replace q24 := eq_true q24
            have p37 : 0 ≤ ((ji34) : Int) := of_decide_eq_true Q4
            have q37 : (ji34) < (t402.size : Int) := of_decide_eq_true Q4
            have hx37 := bt_at t402 (ji34)
            replace p37 := eq_true p37
            replace q37 := eq_true q37
            go_wp2
            go_roundg k2
            case measure => have := HJ1.out; have := HK2.out; omega
            case rel => exact ⟨(wrap64 (x5_2 + 1)), (x6_2), (wrap64 (x7_2 + 1)), Q3, Q3, Q3, H', ⟨Q33⟩, ⟨Q22⟩, ⟨Q13⟩⟩
           rw [if_neg c38] at H
           have c38b0 : ((bt t402 (ji34)) == 10) = false := beq_eq_false_iff_ne.mpr c38
           have c38b1 : ((bt t402 (ji34)) != 10) = true := bne_iff_ne.mpr c38
           have H' := Aside0.mk H
           clear H
           have p24 : 0 ≤ (x7_2 : Int) := of_decide_eq_true Q4
           have q24 : x7_2 < (t402.size : Int) := of_decide_eq_true Q4
           have hx24 := bt_at t402 x7_2
           replace p24 := eq_true p24
           replace q24 := eq_true q24
           have p37 : 0 ≤ ((ji34) : Int) := of_decide_eq_true Q4
           have q37 : (ji34) < (t402.size : Int) := of_decide_eq_true Q4
           have hx37 := bt_at t402 (ji34)
           replace p37 := eq_true p37
           replace q37 := eq_true q37
           go_wp2
           go_roundg k2
           case measure => have := HJ1.out; have := HK2.out; omega
           case rel => exact ⟨(wrap64 (x5_2 + 1)), (x6_2), (wrap64 (x7_2 + 1)), Q3, Q3, Q3, H', ⟨Q33⟩, ⟨Q22⟩, ⟨Q13⟩⟩
          rw [if_neg c36] at H
          exact absurd H Q8
         rw [if_neg c35] at H
         exact absurd H Q8
        rw [if_neg c25] at H
        have c25b0 : ((bt t402 x7_2) == 10) = false := beq_eq_false_iff_ne.mpr c25
        have c25b1 : ((bt t402 x7_2) != 10) = true := bne_iff_ne.mpr c25
        by_cases c46 : x7_2 = 0
        ·rw [if_pos c46] at H
         have c46b0 : (x7_2 == 0) = true := beq_iff_eq.mpr c46
         have c46b1 : (x7_2 != 0) = false := bne_eq_false_iff_eq.mpr c46
         clear c46
         by_cases c47 : (wrap64 (x7_2 + 1)) < (t402.size : Int)
         ·rw [if_pos c47] at H
          have c47b0 : decide ((wrap64 (x7_2 + 1)) < (t402.size : Int)) = true := decide_eq_true c47
          clear c47
          by_cases c49 : (bt t402 x7_2) = 32
          ·rw [if_pos c49] at H
           have c49b0 : ((bt t402 x7_2) == 32) = true := beq_iff_eq.mpr c49
           have c49b1 : ((bt t402 x7_2) != 32) = false := bne_eq_false_iff_eq.mpr c49
           clear c49
           obtain ⟨ji50, hji50⟩ : ∃ j_ : Int, (wrap64 (x7_2 + 1)) = j_ := ⟨_, rfl⟩
           replace H : (if 0 ≤ (ji50) then (if (bt t402 (ji50)) = 32 then (mandrellaw11_VcodeLines.l0 k2 t402 x5_2 (wrap64 (x6_2 + 1)) ji50 a0_0 a0_1 a0_2 l0_3) else (mandrellaw11_VcodeLines.l0 k2 t402 x5_2 x6_2 ji50 a0_0 a0_1 a0_2 l0_3)) else (none)) = some r := by first | (rw [hji50] at H; exact H) | (simp only [hji50] at H ⊢; exact H)
           (try rw [hji50] at c47b0)
           have hji50w : (IntKind.i64.wrap (x7_2 + 1)) = ji50 := (i64_w _).trans hji50
           by_cases c51 : 0 ≤ (ji50)
           ·rw [if_pos c51] at H
            have c51b0 : decide (0 ≤ (ji50)) = true := decide_eq_true c51
            clear c51
            by_cases c53 : (bt t402 (ji50)) = 32
            ·rw [if_pos c53] at H
             have c53b0 : ((bt t402 (ji50)) == 32) = true := beq_iff_eq.mpr c53
             have c53b1 : ((bt t402 (ji50)) != 32) = false := bne_eq_false_iff_eq.mpr c53
             clear c53
             have H' := Aside0.mk H
             clear H
             have p24 : 0 ≤ (x7_2 : Int) := of_decide_eq_true Q4
             have q24 : x7_2 < (t402.size : Int) := of_decide_eq_true Q4
             have hx24 := bt_at t402 x7_2
             replace p24 := eq_true p24
             replace q24 := eq_true q24
             have p48 : 0 ≤ (x7_2 : Int) := of_decide_eq_true Q4
             have q48 : x7_2 < (t402.size : Int) := of_decide_eq_true Q4
             have hx48 := bt_at t402 x7_2
             replace p48 := eq_true p48
             replace q48 := eq_true q48
             have p52 : 0 ≤ ((ji50) : Int) := of_decide_eq_true Q4
             have q52 : (ji50) < (t402.size : Int) := of_decide_eq_true Q4
             have hx52 := bt_at t402 (ji50)
             replace p52 := eq_true p52
             replace q52 := eq_true q52
             go_wp2
             go_roundg k2
             case measure => have := HJ1.out; have := HK2.out; omega
             case rel => exact ⟨(x5_2), (wrap64 (x6_2 + 1)), (ji50), Q3, Q3, Q146, H', ⟨Q33⟩, ⟨Q22⟩, ⟨Q13⟩⟩
            rw [if_neg c53] at H
            have c53b0 : ((bt t402 (ji50)) == 32) = false := beq_eq_false_iff_ne.mpr c53
            have c53b1 : ((bt t402 (ji50)) != 32) = true := bne_iff_ne.mpr c53
            have H' := Aside0.mk H
            clear H
            have p24 : 0 ≤ (x7_2 : Int) := of_decide_eq_true Q4
            have q24 : x7_2 < (t402.size : Int) := of_decide_eq_true Q4
            have hx24 := bt_at t402 x7_2
            replace p24 := eq_true p24
            replace q24 := eq_true q24
            have p48 : 0 ≤ (x7_2 : Int) := of_decide_eq_true Q4
            have q48 : x7_2 < (t402.size : Int) := of_decide_eq_true Q4
            have hx48 := bt_at t402 x7_2
            replace p48 := eq_true p48
            replace q48 := eq_true q48
            have p52 : 0 ≤ ((ji50) : Int) := of_decide_eq_true Q4
            have q52 : (ji50) < (t402.size : Int) := of_decide_eq_true Q4
            have hx52 := bt_at t402 (ji50)
            replace p52 := eq_true p52
            replace q52 := eq_true q52
            go_wp2
            go_roundg k2
            case measure => have := HJ1.out; have := HK2.out; omega
            case rel => exact ⟨(x5_2), (x6_2), (ji50), Q3, Q3, Q146, H', ⟨Q33⟩, ⟨Q22⟩, ⟨Q13⟩⟩
           rw [if_neg c51] at H
           exact absurd H Q8
          rw [if_neg c49] at H
          have c49b0 : ((bt t402 x7_2) == 32) = false := beq_eq_false_iff_ne.mpr c49
          have c49b1 : ((bt t402 x7_2) != 32) = true := bne_iff_ne.mpr c49
          have H' := Aside0.mk H
          clear H
          have p24 : 0 ≤ (x7_2 : Int) := of_decide_eq_true Q4
          have q24 : x7_2 < (t402.size : Int) := of_decide_eq_true Q4
          have hx24 := bt_at t402 x7_2
          replace p24 := eq_true p24
          replace q24 := eq_true q24
          have p48 : 0 ≤ (x7_2 : Int) := of_decide_eq_true Q4
          have q48 : x7_2 < (t402.size : Int) := of_decide_eq_true Q4
          have hx48 := bt_at t402 x7_2
          replace p48 := eq_true p48
          replace q48 := eq_true q48
          go_wp2
          go_roundg k2
          case measure => have := HJ1.out; have := HK2.out; omega
          case rel => exact ⟨(x5_2), (x6_2), (wrap64 (x7_2 + 1)), Q3, Q3, Q3, H', ⟨Q33⟩, ⟨Q22⟩, ⟨Q13⟩⟩
         rw [if_neg c47] at H
         have c47b0 : decide ((wrap64 (x7_2 + 1)) < (t402.size : Int)) = false := decide_eq_false c47
         clear c47
         have H' := Aside0.mk H
         clear H
         have p24 : 0 ≤ (x7_2 : Int) := of_decide_eq_true Q4
         have q24 : x7_2 < (t402.size : Int) := of_decide_eq_true Q4
         have hx24 := bt_at t402 x7_2
         replace p24 := eq_true p24
         replace q24 := eq_true q24
         go_wp2
         go_roundg k2
         case measure => have := HJ1.out; have := HK2.out; omega
         case rel => exact ⟨(x5_2), (x6_2), (wrap64 (x7_2 + 1)), Q3, Q3, Q3, H', ⟨Q33⟩, ⟨Q22⟩, ⟨Q13⟩⟩
        rw [if_neg c46] at H
        have c46b0 : (x7_2 == 0) = false := beq_eq_false_iff_ne.mpr c46
        have c46b1 : (x7_2 != 0) = true := bne_iff_ne.mpr c46
        obtain ⟨ji54, hji54⟩ : ∃ j_ : Int, (wrap64 (x7_2 - 1)) = j_ := ⟨_, rfl⟩
        replace H : (if 0 ≤ (ji54) then (if (ji54) < (t402.size : Int) then (if (bt t402 (ji54)) = 10 then (if (wrap64 (x7_2 + 1)) < (t402.size : Int) then (if (bt t402 x7_2) = 32 then (if 0 ≤ (wrap64 (x7_2 + 1)) then (if (bt t402 (wrap64 (x7_2 + 1))) = 32 then (mandrellaw11_VcodeLines.l0 k2 t402 x5_2 (wrap64 (x6_2 + 1)) (wrap64 (x7_2 + 1)) a0_0 a0_1 a0_2 l0_3) else (mandrellaw11_VcodeLines.l0 k2 t402 x5_2 x6_2 (wrap64 (x7_2 + 1)) a0_0 a0_1 a0_2 l0_3)) else (none)) else (mandrellaw11_VcodeLines.l0 k2 t402 x5_2 x6_2 (wrap64 (x7_2 + 1)) a0_0 a0_1 a0_2 l0_3)) else (mandrellaw11_VcodeLines.l0 k2 t402 x5_2 x6_2 (wrap64 (x7_2 + 1)) a0_0 a0_1 a0_2 l0_3)) else (mandrellaw11_VcodeLines.l0 k2 t402 x5_2 x6_2 (wrap64 (x7_2 + 1)) a0_0 a0_1 a0_2 l0_3)) else (none)) else (none)) = some r := by first | (rw [hji54] at H; exact H) | (simp only [hji54] at H ⊢; exact H)
        have hji54w : (IntKind.i64.wrap (x7_2 - 1)) = ji54 := (i64_w _).trans hji54
        by_cases c55 : 0 ≤ (ji54)
        ·rw [if_pos c55] at H
         have c55b0 : decide (0 ≤ (ji54)) = true := decide_eq_true c55
         clear c55
         by_cases c56 : (ji54) < (t402.size : Int)
         ·rw [if_pos c56] at H
          have c56b0 : decide ((ji54) < (t402.size : Int)) = true := decide_eq_true c56
          clear c56
          by_cases c58 : (bt t402 (ji54)) = 10
          ·rw [if_pos c58] at H
           have c58b0 : ((bt t402 (ji54)) == 10) = true := beq_iff_eq.mpr c58
           have c58b1 : ((bt t402 (ji54)) != 10) = false := bne_eq_false_iff_eq.mpr c58
           clear c58
           by_cases c59 : (wrap64 (x7_2 + 1)) < (t402.size : Int)
           ·rw [if_pos c59] at H
            have c59b0 : decide ((wrap64 (x7_2 + 1)) < (t402.size : Int)) = true := decide_eq_true c59
            clear c59
            by_cases c61 : (bt t402 x7_2) = 32
            ·rw [if_pos c61] at H
             have c61b0 : ((bt t402 x7_2) == 32) = true := beq_iff_eq.mpr c61
             have c61b1 : ((bt t402 x7_2) != 32) = false := bne_eq_false_iff_eq.mpr c61
             clear c61
             obtain ⟨ji62, hji62⟩ : ∃ j_ : Int, (wrap64 (x7_2 + 1)) = j_ := ⟨_, rfl⟩
             replace H : (if 0 ≤ (ji62) then (if (bt t402 (ji62)) = 32 then (mandrellaw11_VcodeLines.l0 k2 t402 x5_2 (wrap64 (x6_2 + 1)) ji62 a0_0 a0_1 a0_2 l0_3) else (mandrellaw11_VcodeLines.l0 k2 t402 x5_2 x6_2 ji62 a0_0 a0_1 a0_2 l0_3)) else (none)) = some r := by first | (rw [hji62] at H; exact H) | (simp only [hji62] at H ⊢; exact H)
             (try rw [hji62] at c59b0)
             have hji62w : (IntKind.i64.wrap (x7_2 + 1)) = ji62 := (i64_w _).trans hji62
             by_cases c63 : 0 ≤ (ji62)
             ·rw [if_pos c63] at H
              have c63b0 : decide (0 ≤ (ji62)) = true := decide_eq_true c63
              clear c63
              by_cases c65 : (bt t402 (ji62)) = 32
              ·rw [if_pos c65] at H
               have c65b0 : ((bt t402 (ji62)) == 32) = true := beq_iff_eq.mpr c65
               have c65b1 : ((bt t402 (ji62)) != 32) = false := bne_eq_false_iff_eq.mpr c65
               clear c65
               have H' := Aside0.mk H
               clear H
               have p24 : 0 ≤ (x7_2 : Int) := of_decide_eq_true Q4
               have q24 : x7_2 < (t402.size : Int) := of_decide_eq_true Q4
               have hx24 := bt_at t402 x7_2
               replace p24 := eq_true p24
               replace q24 := eq_true q24
               have p57 : 0 ≤ ((ji54) : Int) := of_decide_eq_true Q4
               have q57 : (ji54) < (t402.size : Int) := of_decide_eq_true Q4
               have hx57 := bt_at t402 (ji54)
               replace p57 := eq_true p57
               replace q57 := eq_true q57
               have p60 : 0 ≤ (x7_2 : Int) := of_decide_eq_true Q4
               have q60 : x7_2 < (t402.size : Int) := of_decide_eq_true Q4
               have hx60 := bt_at t402 x7_2
               replace p60 := eq_true p60
               replace q60 := eq_true q60
               have p64 : 0 ≤ ((ji62) : Int) := of_decide_eq_true Q4
               have q64 : (ji62) < (t402.size : Int) := of_decide_eq_true Q4
               have hx64 := bt_at t402 (ji62)
               replace p64 := eq_true p64
               replace q64 := eq_true q64
               go_wp2
               go_roundg k2
               case measure => have := HJ1.out; have := HK2.out; omega
               case rel => exact ⟨(x5_2), (wrap64 (x6_2 + 1)), (ji62), Q3, Q3, Q147, H', ⟨Q33⟩, ⟨Q22⟩, ⟨Q13⟩⟩
              rw [if_neg c65] at H
              have c65b0 : ((bt t402 (ji62)) == 32) = false := beq_eq_false_iff_ne.mpr c65
              have c65b1 : ((bt t402 (ji62)) != 32) = true := bne_iff_ne.mpr c65
              have H' := Aside0.mk H
              clear H
              have p24 : 0 ≤ (x7_2 : Int) := of_decide_eq_true Q4
              have q24 : x7_2 < (t402.size : Int) := of_decide_eq_true Q4
              have hx24 := bt_at t402 x7_2
              replace p24 := eq_true p24
              replace q24 := eq_true q24
              have p57 : 0 ≤ ((ji54) : Int) := of_decide_eq_true Q4
              have q57 : (ji54) < (t402.size : Int) := of_decide_eq_true Q4
              have hx57 := bt_at t402 (ji54)
              replace p57 := eq_true p57
              replace q57 := eq_true q57
              have p60 : 0 ≤ (x7_2 : Int) := of_decide_eq_true Q4
              have q60 : x7_2 < (t402.size : Int) := of_decide_eq_true Q4
              have hx60 := bt_at t402 x7_2
              replace p60 := eq_true p60
              replace q60 := eq_true q60
              have p64 : 0 ≤ ((ji62) : Int) := of_decide_eq_true Q4
              have q64 : (ji62) < (t402.size : Int) := of_decide_eq_true Q4
              have hx64 := bt_at t402 (ji62)
              replace p64 := eq_true p64
              replace q64 := eq_true q64
              go_wp2
              go_roundg k2
              case measure => have := HJ1.out; have := HK2.out; omega
              case rel => exact ⟨(x5_2), (x6_2), (ji62), Q3, Q3, Q147, H', ⟨Q33⟩, ⟨Q22⟩, ⟨Q13⟩⟩
             rw [if_neg c63] at H
             exact absurd H Q8
            rw [if_neg c61] at H
            have c61b0 : ((bt t402 x7_2) == 32) = false := beq_eq_false_iff_ne.mpr c61
            have c61b1 : ((bt t402 x7_2) != 32) = true := bne_iff_ne.mpr c61
            have H' := Aside0.mk H
            clear H
            have p24 : 0 ≤ (x7_2 : Int) := of_decide_eq_true Q4
            have q24 : x7_2 < (t402.size : Int) := of_decide_eq_true Q4
            have hx24 := bt_at t402 x7_2
            replace p24 := eq_true p24
            replace q24 := eq_true q24
            have p57 : 0 ≤ ((ji54) : Int) := of_decide_eq_true Q4
            have q57 : (ji54) < (t402.size : Int) := of_decide_eq_true Q4
            have hx57 := bt_at t402 (ji54)
            replace p57 := eq_true p57
            replace q57 := eq_true q57
            have p60 : 0 ≤ (x7_2 : Int) := of_decide_eq_true Q4
            have q60 : x7_2 < (t402.size : Int) := of_decide_eq_true Q4
            have hx60 := bt_at t402 x7_2
            replace p60 := eq_true p60
            replace q60 := eq_true q60
            go_wp2
            go_roundg k2
            case measure => have := HJ1.out; have := HK2.out; omega
            case rel => exact ⟨(x5_2), (x6_2), (wrap64 (x7_2 + 1)), Q3, Q3, Q3, H', ⟨Q33⟩, ⟨Q22⟩, ⟨Q13⟩⟩
           rw [if_neg c59] at H
           have c59b0 : decide ((wrap64 (x7_2 + 1)) < (t402.size : Int)) = false := decide_eq_false c59
           clear c59
           have H' := Aside0.mk H
           clear H
           have p24 : 0 ≤ (x7_2 : Int) := of_decide_eq_true Q4
           have q24 : x7_2 < (t402.size : Int) := of_decide_eq_true Q4
           have hx24 := bt_at t402 x7_2
           replace p24 := eq_true p24
           replace q24 := eq_true q24
           have p57 : 0 ≤ ((ji54) : Int) := of_decide_eq_true Q4
           have q57 : (ji54) < (t402.size : Int) := of_decide_eq_true Q4
           have hx57 := bt_at t402 (ji54)
           replace p57 := eq_true p57
           replace q57 := eq_true q57
           go_wp2
           go_roundg k2
           case measure => have := HJ1.out; have := HK2.out; omega
           case rel => exact ⟨(x5_2), (x6_2), (wrap64 (x7_2 + 1)), Q3, Q3, Q3, H', ⟨Q33⟩, ⟨Q22⟩, ⟨Q13⟩⟩
          rw [if_neg c58] at H
          have c58b0 : ((bt t402 (ji54)) == 10) = false := beq_eq_false_iff_ne.mpr c58
          have c58b1 : ((bt t402 (ji54)) != 10) = true := bne_iff_ne.mpr c58
          have H' := Aside0.mk H
          clear H
          have p24 : 0 ≤ (x7_2 : Int) := of_decide_eq_true Q4
          have q24 : x7_2 < (t402.size : Int) := of_decide_eq_true Q4
          have hx24 := bt_at t402 x7_2
          replace p24 := eq_true p24
          replace q24 := eq_true q24
          have p57 : 0 ≤ ((ji54) : Int) := of_decide_eq_true Q4
          have q57 : (ji54) < (t402.size : Int) := of_decide_eq_true Q4
          have hx57 := bt_at t402 (ji54)
          replace p57 := eq_true p57
          replace q57 := eq_true q57
          go_wp2
          go_roundg k2
          case measure => have := HJ1.out; have := HK2.out; omega
          case rel => exact ⟨(x5_2), (x6_2), (wrap64 (x7_2 + 1)), Q3, Q3, Q3, H', ⟨Q33⟩, ⟨Q22⟩, ⟨Q13⟩⟩
         rw [if_neg c56] at H
         exact absurd H Q8
        rw [if_neg c55] at H
        exact absurd H Q8
       rw [if_neg c23] at H
       exact absurd H Q8
      rw [if_neg c22] at H
      have c22b0 : decide (x7_2 < (t402.size : Int)) = false := decide_eq_false c22
      clear c22
      replace H := Option.bind_eq_some_iff.mp H
      obtain ⟨t405, A660, H⟩ := H
      replace H : (if x5_2 = (wrap64 ((wrap64 (1 + (l0_3.length : Int))) + t405)) then ((mandrelref11_Size.f k2 a0_0 a0_1 a0_2 l0_3).bind fun t406 => (if x6_2 = t406 then ((mandrellaw11_sure.f k2).bind fun t407 => (some t407)) else (some false))) else (some false)) = some r := H
      have A66 := Aside0.mk A660
      clear A660
      by_cases c67 : x5_2 = (wrap64 ((wrap64 (1 + (l0_3.length : Int))) + t405))
      ·rw [if_pos c67] at H
       have c67b0 : (x5_2 == (wrap64 ((wrap64 (1 + (l0_3.length : Int))) + t405))) = true := beq_iff_eq.mpr c67
       have c67b1 : (x5_2 != (wrap64 ((wrap64 (1 + (l0_3.length : Int))) + t405))) = false := bne_eq_false_iff_eq.mpr c67
       clear c67
       replace H := Option.bind_eq_some_iff.mp H
       obtain ⟨t406, A680, H⟩ := H
       replace H : (if x6_2 = t406 then ((mandrellaw11_sure.f k2).bind fun t407 => (some t407)) else (some false)) = some r := H
       have A68 := Aside0.mk A680
       clear A680
       by_cases c69 : x6_2 = t406
       ·rw [if_pos c69] at H
        have c69b0 : (x6_2 == t406) = true := beq_iff_eq.mpr c69
        have c69b1 : (x6_2 != t406) = false := bne_eq_false_iff_eq.mpr c69
        clear c69
        replace H := Option.bind_eq_some_iff.mp H
        obtain ⟨t407, A700, H⟩ := H
        replace H : (some t407) = some r := H
        have A70 := Aside0.mk A700
        clear A700
        obtain rfl := Option.some.inj H
        try go_wp2
        have n0_ := Aside0.mk (blk_drew BK392.out)
        have n1_ := Aside0.mk (below_drew1 HB.out)
        clear BK392
        clear HB
        have BK392 := n0_
        have HB := n1_
        clear n0_ n1_
        refine start_ (n := 19) (S := fun w' => w'.cell? ⟨gb392, 0, none⟩ = some (.int .i64 a0_0) ∧ w'.cell? ⟨gb392, 1, none⟩ = some (.int .i64 a0_1) ∧ w'.cell? ⟨gb392, 2, none⟩ = some (.bool a0_2) ∧ w'.cell? ⟨gb392, 3, none⟩ = some (.slice A0_3 l0_3.length c0_3)) (ds := []) #[false, false, false, false, false, false, false, false, false, false, false, false, false, false, false, false, false, false, false] Q0 rfl rfl ⟨(blk_cell BK392.out 0).trans rfl, (blk_cell BK392.out 1).trans rfl, (blk_cell BK392.out 2).trans rfl, (blk_cell BK392.out 3).trans rfl⟩ (fun hHeld => ?_); refine with_tabW mandrellaw11_VcodeLines.tab14 mandrellaw11_VcodeLines.bits14 (fun HT_ HW_ => ?_)
        generalize wr.drew = w71 at BK392 HB hHeld ⊢
        refine pure_ (i := 0) (N := some 73) (bv 19 1) rfl rfl Q152 (fun _ _ _ h => h) Q153 Q5 ?_
        refine pure_ (i := 1) (N := some 74) (bv 19 3) rfl rfl Q152 (fun _ _ _ h => h) Q153 Q5 ?_
        refine take_ (i := 2) (N := some 75) (bv 19 7) rfl rfl Q156 (fun _ _ _ h => h) Q161 hHeld Q5 ?_
        refine pure_ (i := 3) (N := some 76) (bv 19 15) rfl rfl Q152 (fun _ _ _ h => h) Q153 Q5 ?_
        refine pure_ (i := 4) (N := some 77) (bv 19 31) rfl rfl Q152 (fun _ _ _ h => h) Q153 Q5 ?_
        refine take_ (i := 5) (N := some 78) (bv 19 63) rfl rfl Q156 (fun _ _ _ h => h) Q161 hHeld Q5 ?_
        refine one_ (i := 6) (N := some 79) #[true, true, true, true, true, true, true, false, false, false, false, false, false, false, false, false, false, false, false] rfl rfl (one_of HT_.out Q0) Q12 (fun K hK => ?_)
        refine goes_ Tryz.func7 Q0 rfl #[.agg #[.int .i64 a0_0, .int .i64 a0_1, .bool a0_2, .slice A0_3 l0_3.length c0_3]] Q2 rfl rfl Q9 ?_
        with_reducible refine (mandrelref11_Size.calls k2 a0_0 a0_1 a0_2 _ _ l0_3 t405 _ ?side1 ?side2 ?side3 A66.out).mono ?_
        (case side1 => repeat (first | exact (Kd.C_below HR0_3.out HB.out) | (with_reducible refine Kd.C_alloc ?_ _) | (with_reducible refine Kd.C_drewN ?_ _) | (with_reducible refine Kd.C_drew ?_)))
        (case side2 => exact HC0_3.out)
        (case side3 => exact GG.nil _)
        rintro e w72 ⟨rfl, hb⟩
        refine ⟨_, rfl, ?_⟩
        have n0_ := Aside0.mk (blk_below (g := gb392) (o := .cells #[.int .i64 a0_0, .int .i64 a0_1, .bool a0_2, .slice A0_3 l0_3.length c0_3] 24 (0, 0)) Q22 hb)
        have n1_ := Aside0.mk (below_step Q13 hb)
        clear BK392
        clear HB
        have BK392 := n0_
        have HB := n1_
        clear n0_ n1_
        (try clear hb)
        (try clear hb2)
        (try clear hk)
        (try clear hi)
        refine hK.out _ _ ⟨(blk_cell BK392.out 0).trans rfl, (blk_cell BK392.out 1).trans rfl, (blk_cell BK392.out 2).trans rfl, (blk_cell BK392.out 3).trans rfl⟩ (fun hHeld => ?_)
        clear hK K
        refine norm_ (a' := ?_) ?_ ?_
        rotate_left
        ·show Act.put _ (some 79) _ = _
         simp only [Act.put, List.setIfInBounds_toArray, List.set_cons_zero, List.set_cons_succ, i64_w, i32_w]
         rfl
        refine pure_ (i := 7) (N := some 80) (bv 19 255) rfl rfl Q152 (fun _ _ _ h => h) Q153 Q5 ?_
        refine pure_ (i := 8) (N := some 81) (bv 19 511) rfl rfl Q152 (fun _ _ _ h => h) Q153 Q5 ?_
        refine pure_ (i := 9) (N := some 82) (bv 19 1023) rfl rfl Q152 (fun _ _ _ h => h) Q153 Q5 ?_
        refine pure_ (i := 10) (N := some 83) (bv 19 2047) rfl rfl Q152 (fun _ _ _ h => h) Q153 Q5 ?_
        refine take_ (i := 11) (N := some 84) (bv 19 4095) rfl rfl Q156 (fun _ _ _ h => h) Q161 hHeld Q5 ?_
        refine one_ (i := 12) (N := some 85) #[true, true, true, true, true, true, true, true, true, true, true, true, true, false, false, false, false, false, false] rfl rfl (one_of HT_.out Q0) Q12 (fun K hK => ?_)
        refine goes_ Tryz.func7 Q0 rfl #[.agg #[.int .i64 a0_0, .int .i64 a0_1, .bool a0_2, .slice A0_3 l0_3.length c0_3]] Q2 rfl rfl Q9 ?_
        with_reducible refine (mandrelref11_Size.calls k2 a0_0 a0_1 a0_2 _ _ l0_3 t406 _ ?side1 ?side2 ?side3 A68.out).mono ?_
        (case side1 => repeat (first | exact (Kd.C_below HR0_3.out HB.out) | (with_reducible refine Kd.C_alloc ?_ _) | (with_reducible refine Kd.C_drewN ?_ _) | (with_reducible refine Kd.C_drew ?_)))
        (case side2 => exact HC0_3.out)
        (case side3 => exact GG.nil _)
        rintro e w73 ⟨rfl, hb⟩
        refine ⟨_, rfl, ?_⟩
        have n0_ := Aside0.mk (blk_below (g := gb392) (o := .cells #[.int .i64 a0_0, .int .i64 a0_1, .bool a0_2, .slice A0_3 l0_3.length c0_3] 24 (0, 0)) Q22 hb)
        have n1_ := Aside0.mk (below_step Q13 hb)
        clear BK392
        clear HB
        have BK392 := n0_
        have HB := n1_
        clear n0_ n1_
        (try clear hb)
        (try clear hb2)
        (try clear hk)
        (try clear hi)
        refine hK.out _ _ ⟨(blk_cell BK392.out 0).trans rfl, (blk_cell BK392.out 1).trans rfl, (blk_cell BK392.out 2).trans rfl, (blk_cell BK392.out 3).trans rfl⟩ (fun hHeld => ?_)
        clear hK K
        refine norm_ (a' := ?_) ?_ ?_
        rotate_left
        ·show Act.put _ (some 85) _ = _
         simp only [Act.put, List.setIfInBounds_toArray, List.set_cons_zero, List.set_cons_succ, i64_w, i32_w]
         rfl
        refine pure_ (i := 13) (N := some 86) (bv 19 16383) rfl rfl Q152 (fun _ _ _ h => h) Q153 Q5 ?_
        refine pure_ (i := 14) (N := some 87) (bv 19 32767) rfl rfl Q152 (fun _ _ _ h => h) Q153 Q5 ?_
        refine pure_ (i := 15) (N := some 88) (bv 19 65535) rfl rfl Q152 (fun _ _ _ h => h) Q153 Q5 ?_
        refine one_ (i := 16) (N := some 89) #[true, true, true, true, true, true, true, true, true, true, true, true, true, true, true, true, true, false, false] rfl rfl (one_of HT_.out Q0) Q12 (fun K hK => ?_)
        refine goes_ Tryz.func17 Q0 rfl #[] Q2 rfl rfl Q9 ?_
        with_reducible refine (mandrellaw11_sure.calls k2  t407 _ ?side1 A70.out).mono ?_
        (case side1 => exact GG.sub (GG.below Q13 HG.out) Q12)
        rintro e w74 ⟨rfl, hb⟩
        refine ⟨_, rfl, ?_⟩
        have n0_ := Aside0.mk (blk_below (g := gb392) (o := .cells #[.int .i64 a0_0, .int .i64 a0_1, .bool a0_2, .slice A0_3 l0_3.length c0_3] 24 (0, 0)) Q22 hb)
        have n1_ := Aside0.mk (below_step Q13 hb)
        clear BK392
        clear HB
        have BK392 := n0_
        have HB := n1_
        clear n0_ n1_
        (try clear hb)
        (try clear hb2)
        (try clear hk)
        (try clear hi)
        refine hK.out _ _ ⟨(blk_cell BK392.out 0).trans rfl, (blk_cell BK392.out 1).trans rfl, (blk_cell BK392.out 2).trans rfl, (blk_cell BK392.out 3).trans rfl⟩ (fun hHeld => ?_)
        clear hK K
        refine norm_ (a' := ?_) ?_ ?_
        rotate_left
        ·show Act.put _ (some 89) _ = _
         simp only [Act.put, List.setIfInBounds_toArray, List.set_cons_zero, List.set_cons_succ, i64_w, i32_w]
         rfl
        refine pure_ (i := 17) (N := some 90) (bv 19 262143) rfl rfl Q152 (fun _ _ _ h => h) Q153 Q5 ?_
        refine pure_ (i := 18) (N := some 2) (bv 19 524287) rfl rfl Q152 (fun _ _ _ h => h) Q153 Q5 ?_
        refine done_ (done_of HT_.out Q0) ?_
        try go_wp2
        go_ret
        exact ⟨Q6, Q13⟩
       rw [if_neg c69] at H
       have c69b0 : (x6_2 == t406) = false := beq_eq_false_iff_ne.mpr c69
       have c69b1 : (x6_2 != t406) = true := bne_iff_ne.mpr c69
       obtain rfl := Option.some.inj H
       try go_wp2
       have n0_ := Aside0.mk (blk_drew BK392.out)
       have n1_ := Aside0.mk (below_drew1 HB.out)
       clear BK392
       clear HB
       have BK392 := n0_
       have HB := n1_
       clear n0_ n1_
       refine start_ (n := 19) (S := fun w' => w'.cell? ⟨gb392, 0, none⟩ = some (.int .i64 a0_0) ∧ w'.cell? ⟨gb392, 1, none⟩ = some (.int .i64 a0_1) ∧ w'.cell? ⟨gb392, 2, none⟩ = some (.bool a0_2) ∧ w'.cell? ⟨gb392, 3, none⟩ = some (.slice A0_3 l0_3.length c0_3)) (ds := []) #[false, false, false, false, false, false, false, false, false, false, false, false, false, false, false, false, false, false, false] Q0 rfl rfl ⟨(blk_cell BK392.out 0).trans rfl, (blk_cell BK392.out 1).trans rfl, (blk_cell BK392.out 2).trans rfl, (blk_cell BK392.out 3).trans rfl⟩ (fun hHeld => ?_); refine with_tabW mandrellaw11_VcodeLines.tab14 mandrellaw11_VcodeLines.bits14 (fun HT_ HW_ => ?_)
       generalize wr.drew = w75 at BK392 HB hHeld ⊢
       refine pure_ (i := 0) (N := some 73) (bv 19 1) rfl rfl Q152 (fun _ _ _ h => h) Q153 Q5 ?_
       refine pure_ (i := 1) (N := some 74) (bv 19 3) rfl rfl Q152 (fun _ _ _ h => h) Q153 Q5 ?_
       refine take_ (i := 2) (N := some 75) (bv 19 7) rfl rfl Q156 (fun _ _ _ h => h) Q161 hHeld Q5 ?_
       refine pure_ (i := 3) (N := some 76) (bv 19 15) rfl rfl Q152 (fun _ _ _ h => h) Q153 Q5 ?_
       refine pure_ (i := 4) (N := some 77) (bv 19 31) rfl rfl Q152 (fun _ _ _ h => h) Q153 Q5 ?_
       refine take_ (i := 5) (N := some 78) (bv 19 63) rfl rfl Q156 (fun _ _ _ h => h) Q161 hHeld Q5 ?_
       refine one_ (i := 6) (N := some 79) #[true, true, true, true, true, true, true, false, false, false, false, false, false, false, false, false, false, false, false] rfl rfl (one_of HT_.out Q0) Q12 (fun K hK => ?_)
       refine goes_ Tryz.func7 Q0 rfl #[.agg #[.int .i64 a0_0, .int .i64 a0_1, .bool a0_2, .slice A0_3 l0_3.length c0_3]] Q2 rfl rfl Q9 ?_
       with_reducible refine (mandrelref11_Size.calls k2 a0_0 a0_1 a0_2 _ _ l0_3 t405 _ ?side1 ?side2 ?side3 A66.out).mono ?_
       (case side1 => repeat (first | exact (Kd.C_below HR0_3.out HB.out) | (with_reducible refine Kd.C_alloc ?_ _) | (with_reducible refine Kd.C_drewN ?_ _) | (with_reducible refine Kd.C_drew ?_)))
       (case side2 => exact HC0_3.out)
       (case side3 => exact GG.nil _)
       rintro e w76 ⟨rfl, hb⟩
       refine ⟨_, rfl, ?_⟩
       have n0_ := Aside0.mk (blk_below (g := gb392) (o := .cells #[.int .i64 a0_0, .int .i64 a0_1, .bool a0_2, .slice A0_3 l0_3.length c0_3] 24 (0, 0)) Q22 hb)
       have n1_ := Aside0.mk (below_step Q13 hb)
       clear BK392
       clear HB
       have BK392 := n0_
       have HB := n1_
       clear n0_ n1_
       (try clear hb)
       (try clear hb2)
       (try clear hk)
       (try clear hi)
       refine hK.out _ _ ⟨(blk_cell BK392.out 0).trans rfl, (blk_cell BK392.out 1).trans rfl, (blk_cell BK392.out 2).trans rfl, (blk_cell BK392.out 3).trans rfl⟩ (fun hHeld => ?_)
       clear hK K
       refine norm_ (a' := ?_) ?_ ?_
       rotate_left
       ·show Act.put _ (some 79) _ = _
        simp only [Act.put, List.setIfInBounds_toArray, List.set_cons_zero, List.set_cons_succ, i64_w, i32_w]
        rfl
       refine pure_ (i := 7) (N := some 80) (bv 19 255) rfl rfl Q152 (fun _ _ _ h => h) Q153 Q5 ?_
       refine pure_ (i := 8) (N := some 81) (bv 19 511) rfl rfl Q152 (fun _ _ _ h => h) Q153 Q5 ?_
       refine pure_ (i := 9) (N := some 82) (bv 19 1023) rfl rfl Q152 (fun _ _ _ h => h) Q153 Q5 ?_
       refine pure_ (i := 10) (N := some 83) (bv 19 2047) rfl rfl Q152 (fun _ _ _ h => h) Q153 Q5 ?_
       refine take_ (i := 11) (N := some 84) (bv 19 4095) rfl rfl Q156 (fun _ _ _ h => h) Q161 hHeld Q5 ?_
       refine one_ (i := 12) (N := some 85) #[true, true, true, true, true, true, true, true, true, true, true, true, true, false, false, false, false, false, false] rfl rfl (one_of HT_.out Q0) Q12 (fun K hK => ?_)
       refine goes_ Tryz.func7 Q0 rfl #[.agg #[.int .i64 a0_0, .int .i64 a0_1, .bool a0_2, .slice A0_3 l0_3.length c0_3]] Q2 rfl rfl Q9 ?_
       with_reducible refine (mandrelref11_Size.calls k2 a0_0 a0_1 a0_2 _ _ l0_3 t406 _ ?side1 ?side2 ?side3 A68.out).mono ?_
       (case side1 => repeat (first | exact (Kd.C_below HR0_3.out HB.out) | (with_reducible refine Kd.C_alloc ?_ _) | (with_reducible refine Kd.C_drewN ?_ _) | (with_reducible refine Kd.C_drew ?_)))
       (case side2 => exact HC0_3.out)
       (case side3 => exact GG.nil _)
       rintro e w77 ⟨rfl, hb⟩
       refine ⟨_, rfl, ?_⟩
       have n0_ := Aside0.mk (blk_below (g := gb392) (o := .cells #[.int .i64 a0_0, .int .i64 a0_1, .bool a0_2, .slice A0_3 l0_3.length c0_3] 24 (0, 0)) Q22 hb)
       have n1_ := Aside0.mk (below_step Q13 hb)
       clear BK392
       clear HB
       have BK392 := n0_
       have HB := n1_
       clear n0_ n1_
       (try clear hb)
       (try clear hb2)
       (try clear hk)
       (try clear hi)
       refine hK.out _ _ ⟨(blk_cell BK392.out 0).trans rfl, (blk_cell BK392.out 1).trans rfl, (blk_cell BK392.out 2).trans rfl, (blk_cell BK392.out 3).trans rfl⟩ (fun hHeld => ?_)
       clear hK K
       refine norm_ (a' := ?_) ?_ ?_
       rotate_left
       ·show Act.put _ (some 85) _ = _
        simp only [Act.put, List.setIfInBounds_toArray, List.set_cons_zero, List.set_cons_succ, i64_w, i32_w]
        rfl
       refine pure_ (i := 13) (N := some 86) (bv 19 16383) rfl rfl Q152 (fun _ _ _ h => h) Q153 Q5 ?_
       refine pure_ (i := 14) (N := some 87) (bv 19 32767) rfl rfl Q152 (fun _ _ _ h => h) Q153 Q5 ?_
       refine pure_ (i := 15) (N := some 88) (bv 19 65535) rfl rfl Q152 (fun _ _ _ h => h) Q153 Q5 ?_
       refine pure_ (i := 16) (N := some 89) (v := undef) (a' := ?_) (bv 19 131071) rfl rfl (any_of HT_.out Q0) (fun _ _ _ h => h) (Or.inr ⟨Q2, rfl⟩) ?_ ?_
       rotate_left
       ·simp only [Act.put, List.setIfInBounds_toArray, List.set_cons_zero, List.set_cons_succ, i64_w, i32_w]
        rfl
       refine pure_ (i := 17) (N := some 90) (bv 19 262143) rfl rfl Q152 (fun _ _ _ h => h) Q153 Q5 ?_
       refine pure_ (i := 18) (N := some 2) (bv 19 524287) rfl rfl Q152 (fun _ _ _ h => h) Q153 Q5 ?_
       refine done_ (done_of HT_.out Q0) ?_
       try go_wp2
       go_ret
       exact ⟨Q6, Q13⟩
      rw [if_neg c67] at H
      have c67b0 : (x5_2 == (wrap64 ((wrap64 (1 + (l0_3.length : Int))) + t405))) = false := beq_eq_false_iff_ne.mpr c67
      have c67b1 : (x5_2 != (wrap64 ((wrap64 (1 + (l0_3.length : Int))) + t405))) = true := bne_iff_ne.mpr c67
      obtain rfl := Option.some.inj H
      try go_wp2
      have n0_ := Aside0.mk (blk_drew BK392.out)
      have n1_ := Aside0.mk (below_drew1 HB.out)
      clear BK392
      clear HB
      have BK392 := n0_
      have HB := n1_
      clear n0_ n1_
      refine start_ (n := 19) (S := fun w' => w'.cell? ⟨gb392, 0, none⟩ = some (.int .i64 a0_0) ∧ w'.cell? ⟨gb392, 1, none⟩ = some (.int .i64 a0_1) ∧ w'.cell? ⟨gb392, 2, none⟩ = some (.bool a0_2) ∧ w'.cell? ⟨gb392, 3, none⟩ = some (.slice A0_3 l0_3.length c0_3)) (ds := []) #[false, false, false, false, false, false, false, false, false, false, false, false, false, false, false, false, false, false, false] Q0 rfl rfl ⟨(blk_cell BK392.out 0).trans rfl, (blk_cell BK392.out 1).trans rfl, (blk_cell BK392.out 2).trans rfl, (blk_cell BK392.out 3).trans rfl⟩ (fun hHeld => ?_); refine with_tabW mandrellaw11_VcodeLines.tab14 mandrellaw11_VcodeLines.bits14 (fun HT_ HW_ => ?_)
      generalize wr.drew = w78 at BK392 HB hHeld ⊢
      refine pure_ (i := 0) (N := some 73) (bv 19 1) rfl rfl Q152 (fun _ _ _ h => h) Q153 Q5 ?_
      refine pure_ (i := 1) (N := some 74) (bv 19 3) rfl rfl Q152 (fun _ _ _ h => h) Q153 Q5 ?_
      refine take_ (i := 2) (N := some 75) (bv 19 7) rfl rfl Q156 (fun _ _ _ h => h) Q161 hHeld Q5 ?_
      refine pure_ (i := 3) (N := some 76) (bv 19 15) rfl rfl Q152 (fun _ _ _ h => h) Q153 Q5 ?_
      refine pure_ (i := 4) (N := some 77) (bv 19 31) rfl rfl Q152 (fun _ _ _ h => h) Q153 Q5 ?_
      refine take_ (i := 5) (N := some 78) (bv 19 63) rfl rfl Q156 (fun _ _ _ h => h) Q161 hHeld Q5 ?_
      refine one_ (i := 6) (N := some 79) #[true, true, true, true, true, true, true, false, false, false, false, false, false, false, false, false, false, false, false] rfl rfl (one_of HT_.out Q0) Q12 (fun K hK => ?_)
      refine goes_ Tryz.func7 Q0 rfl #[.agg #[.int .i64 a0_0, .int .i64 a0_1, .bool a0_2, .slice A0_3 l0_3.length c0_3]] Q2 rfl rfl Q9 ?_
      with_reducible refine (mandrelref11_Size.calls k2 a0_0 a0_1 a0_2 _ _ l0_3 t405 _ ?side1 ?side2 ?side3 A66.out).mono ?_
      (case side1 => repeat (first | exact (Kd.C_below HR0_3.out HB.out) | (with_reducible refine Kd.C_alloc ?_ _) | (with_reducible refine Kd.C_drewN ?_ _) | (with_reducible refine Kd.C_drew ?_)))
      (case side2 => exact HC0_3.out)
      (case side3 => exact GG.nil _)
      rintro e w79 ⟨rfl, hb⟩
      refine ⟨_, rfl, ?_⟩
      have n0_ := Aside0.mk (blk_below (g := gb392) (o := .cells #[.int .i64 a0_0, .int .i64 a0_1, .bool a0_2, .slice A0_3 l0_3.length c0_3] 24 (0, 0)) Q22 hb)
      have n1_ := Aside0.mk (below_step Q13 hb)
      clear BK392
      clear HB
      have BK392 := n0_
      have HB := n1_
      clear n0_ n1_
      (try clear hb)
      (try clear hb2)
      (try clear hk)
      (try clear hi)
      refine hK.out _ _ ⟨(blk_cell BK392.out 0).trans rfl, (blk_cell BK392.out 1).trans rfl, (blk_cell BK392.out 2).trans rfl, (blk_cell BK392.out 3).trans rfl⟩ (fun hHeld => ?_)
      clear hK K
      refine norm_ (a' := ?_) ?_ ?_
      rotate_left
      ·show Act.put _ (some 79) _ = _
       simp only [Act.put, List.setIfInBounds_toArray, List.set_cons_zero, List.set_cons_succ, i64_w, i32_w]
       rfl
      refine pure_ (i := 7) (N := some 80) (bv 19 255) rfl rfl Q152 (fun _ _ _ h => h) Q153 Q5 ?_
      refine pure_ (i := 8) (N := some 81) (bv 19 511) rfl rfl Q152 (fun _ _ _ h => h) Q153 Q5 ?_
      refine pure_ (i := 9) (N := some 82) (bv 19 1023) rfl rfl Q152 (fun _ _ _ h => h) Q153 Q5 ?_
      refine pure_ (i := 10) (N := some 83) (v := undef) (a' := ?_) (bv 19 2047) rfl rfl (any_of HT_.out Q0) (fun _ _ _ h => h) (Or.inr ⟨Q2, rfl⟩) ?_ ?_
      rotate_left
      ·simp only [Act.put, List.setIfInBounds_toArray, List.set_cons_zero, List.set_cons_succ, i64_w, i32_w]
       rfl
      refine pure_ (i := 11) (N := some 84) (v := undef) (a' := ?_) (bv 19 4095) rfl rfl (any_of HT_.out Q0) (fun _ _ _ h => h) (Or.inr ⟨Q2, rfl⟩) ?_ ?_
      rotate_left
      ·simp only [Act.put, List.setIfInBounds_toArray, List.set_cons_zero, List.set_cons_succ, i64_w, i32_w]
       rfl
      refine pure_ (i := 12) (N := some 85) (v := undef) (a' := ?_) (bv 19 8191) rfl rfl (any_of HT_.out Q0) (fun _ _ _ h => h) (Or.inr ⟨Q2, rfl⟩) ?_ ?_
      rotate_left
      ·simp only [Act.put, List.setIfInBounds_toArray, List.set_cons_zero, List.set_cons_succ, i64_w, i32_w]
       rfl
      refine pure_ (i := 13) (N := some 86) (v := undef) (a' := ?_) (bv 19 16383) rfl rfl (any_of HT_.out Q0) (fun _ _ _ h => h) (Or.inr ⟨Q2, rfl⟩) ?_ ?_
      rotate_left
      ·simp only [Act.put, List.setIfInBounds_toArray, List.set_cons_zero, List.set_cons_succ, i64_w, i32_w]
       rfl
      refine pure_ (i := 14) (N := some 87) (bv 19 32767) rfl rfl Q152 (fun _ _ _ h => h) Q153 Q5 ?_
      refine pure_ (i := 15) (N := some 88) (bv 19 65535) rfl rfl Q152 (fun _ _ _ h => h) Q153 Q5 ?_
      refine pure_ (i := 16) (N := some 89) (v := undef) (a' := ?_) (bv 19 131071) rfl rfl (any_of HT_.out Q0) (fun _ _ _ h => h) (Or.inr ⟨Q2, rfl⟩) ?_ ?_
      rotate_left
      ·simp only [Act.put, List.setIfInBounds_toArray, List.set_cons_zero, List.set_cons_succ, i64_w, i32_w]
       rfl
      refine pure_ (i := 17) (N := some 90) (bv 19 262143) rfl rfl Q152 (fun _ _ _ h => h) Q153 Q5 ?_
      refine pure_ (i := 18) (N := some 2) (bv 19 524287) rfl rfl Q152 (fun _ _ _ h => h) Q153 Q5 ?_
      refine done_ (done_of HT_.out Q0) ?_
      try go_wp2
      go_ret
      exact ⟨Q6, Q13⟩
   have H1 : ((mandrellaw11_num.f (some q404)).bind fun t408 => (if t408 = 2 then ((mandrellaw11_sure.f kj1).bind fun t409 => (some t409)) else (some false))) = some r := by rw [if_neg (show ¬ (some q404).isNone = true by simp)] at H; exact H
   clear H
   have H := H1
   clear H1
   try simp only [errW_none, errW_some]
   replace H := Option.bind_eq_some_iff.mp H
   obtain ⟨t408, A800, H⟩ := H
   replace H : (if t408 = 2 then ((mandrellaw11_sure.f kj1).bind fun t409 => (some t409)) else (some false)) = some r := H
   have A80 := Aside0.mk A800
   clear A800
   by_cases c81 : t408 = 2
   ·rw [if_pos c81] at H
    have c81b0 : (t408 == 2) = true := beq_iff_eq.mpr c81
    have c81b1 : (t408 != 2) = false := bne_eq_false_iff_eq.mpr c81
    clear c81
    replace H := Option.bind_eq_some_iff.mp H
    obtain ⟨t409, A820, H⟩ := H
    replace H : (some t409) = some r := H
    have A82 := Aside0.mk A820
    clear A820
    obtain rfl := Option.some.inj H
    have ⟨hcz83_0, hcz83_1, hcz83_2, hcz83_3, hfz83_0, hfz83_1, hfz83_2, hfz83_3⟩ := blk4 BK392.out
    go_wp2_with (first | ((with_reducible refine gate_callee (f := 19) rfl ?_); refine goesL_ (some 18) rfl rfl Tryz.func19 Q0 rfl #[.agg #[.int .i64 a0_0, .int .i64 a0_1, .bool a0_2, .slice A0_3 l0_3.length c0_3]] rfl Q9 ?_; (with_reducible refine (mandrellaw11_giveCode.calls kj1 a0_0 a0_1 a0_2 (fun k_ => k_ < w.heap.size) _ _ l0_3 t396 t397 t398 t399 _ ?side1 ?side2 A16.out).mono ?_); (case side1 => exact Kd.V_mk HC0_3.out (Kd.F_below (Kd.C_F k80_heap HR0_3.out) Q13)); (case side2 => exact GG.nil _); rintro e w84 ⟨v400, rfl, ho0, hb⟩; refine ⟨_, rfl, ?_⟩; have n0_ := Aside0.mk (Kd.N_lower (Kd.N_mono (ok' := fun k_ => k_ ≠ gb392) ho0 (fun k_ hk_ => Or.elim hk_ (fun hs_ => fun e_ => Nat.not_le.2 hs_ (by rw [e_]; exact GW392.out)) (fun hn_ => (Kd.freshB (g := gb392) (o := .cells #[.int .i64 a0_0, .int .i64 a0_1, .bool a0_2, .slice A0_3 l0_3.length c0_3] 24 (0, 0)) Q22 k_ hn_)))) (below_size Q13)); have n1_ := Aside0.mk (blk_below (g := gb392) (o := .cells #[.int .i64 a0_0, .int .i64 a0_1, .bool a0_2, .slice A0_3 l0_3.length c0_3] 24 (0, 0)) Q22 hb); have n2_ := Aside0.mk (below_step Q13 hb); clear BK392; clear HB; have HO401 := n0_; have BK392 := n1_; have HB := n2_; clear n0_ n1_ n2_; (try clear hb); (try clear hb2); (try clear hk); (try clear hi); (try clear ho0); obtain ⟨Ao85, co85, eo85⟩ := Kd.N_slice HO401.out; subst eo85) | ((with_reducible refine gate_callee (f := 18) rfl ?_); refine goesL_ (some 19) rfl rfl Tryz.func18 Q0 rfl #[.agg #[.int .i64 t396, .int .i64 t397, .bool t398, .slice Ao85 t399.length co85]] rfl Q9 ?_; (with_reducible refine (vcode_Text.calls kj1 t396 t397 t398 _ _ t399 t402 (some q404) _ ?side1 ?side2 ?side3 A17.out).mono ?_); (case side1 => repeat (first | exact (Kd.N_reads' HO401.out).2.2 | (with_reducible refine Kd.C_alloc ?_ _) | (with_reducible refine Kd.C_drewN ?_ _) | (with_reducible refine Kd.C_drew ?_))); (case side2 => exact (Kd.N_reads' HO401.out).2.1); (case side3 => exact GG.sub (GG.below Q13 HG.out) Q12); rintro e w86 ⟨rfl, hb⟩; refine ⟨_, rfl, ?_⟩; have n0_ := Aside0.mk (Kd.N_below Q61 hb); have n1_ := Aside0.mk (blk_below (g := gb392) (o := .cells #[.int .i64 a0_0, .int .i64 a0_1, .bool a0_2, .slice A0_3 l0_3.length c0_3] 24 (0, 0)) Q22 hb); have n2_ := Aside0.mk (below_step Q13 hb); clear HO401; clear BK392; clear HB; have HO401 := n0_; have BK392 := n1_; have HB := n2_; clear n0_ n1_ n2_; (try clear hb); (try clear hb2); (try clear hk); (try clear hi); (try simp only [errW_none, errW_some]); have CA80 := fun W (hG_ : GG [1] W) => mandrellaw11_num.calls (some q404) t408 W hG_ A80.out; try simp only [errW_none, errW_some] at CA80) | (go_at_call 20; (with_reducible refine (CA80 _ ?side1).mono ?_); (case side1 => exact GG.sub (GG.below Q13 HG.out) Q12); rintro e w87 ⟨rfl, hb⟩; have n0_ := Aside0.mk (Kd.N_below Q61 hb); have n1_ := Aside0.mk (blk_below (g := gb392) (o := .cells #[.int .i64 a0_0, .int .i64 a0_1, .bool a0_2, .slice A0_3 l0_3.length c0_3] 24 (0, 0)) Q22 hb); have n2_ := Aside0.mk (below_step Q13 hb); clear HO401; clear BK392; clear HB; have HO401 := n0_; have BK392 := n1_; have HB := n2_; clear n0_ n1_ n2_; (try clear hb); (try clear hb2); (try clear hk); (try clear hi)) | (go_at_call 17; (with_reducible refine (mandrellaw11_sure.calls kj1  t409 _ ?side1 A82.out).mono ?_); (case side1 => exact GG.sub (GG.below Q13 HG.out) Q12); rintro e w88 ⟨rfl, hb⟩; have n0_ := Aside0.mk (Kd.N_below Q61 hb); have n1_ := Aside0.mk (blk_below (g := gb392) (o := .cells #[.int .i64 a0_0, .int .i64 a0_1, .bool a0_2, .slice A0_3 l0_3.length c0_3] 24 (0, 0)) Q22 hb); have n2_ := Aside0.mk (below_step Q13 hb); clear HO401; clear BK392; clear HB; have HO401 := n0_; have BK392 := n1_; have HB := n2_; clear n0_ n1_ n2_; (try clear hb); (try clear hb2); (try clear hk); (try clear hi)))
    go_ret
    exact ⟨Q6, Q13⟩
   rw [if_neg c81] at H
   have c81b0 : (t408 == 2) = false := beq_eq_false_iff_ne.mpr c81
   have c81b1 : (t408 != 2) = true := bne_iff_ne.mpr c81
   obtain rfl := Option.some.inj H
   have ⟨hcz89_0, hcz89_1, hcz89_2, hcz89_3, hfz89_0, hfz89_1, hfz89_2, hfz89_3⟩ := blk4 BK392.out
   go_wp2_with (first | ((with_reducible refine gate_callee (f := 19) rfl ?_); refine goesL_ (some 18) rfl rfl Tryz.func19 Q0 rfl #[.agg #[.int .i64 a0_0, .int .i64 a0_1, .bool a0_2, .slice A0_3 l0_3.length c0_3]] rfl Q9 ?_; (with_reducible refine (mandrellaw11_giveCode.calls kj1 a0_0 a0_1 a0_2 (fun k_ => k_ < w.heap.size) _ _ l0_3 t396 t397 t398 t399 _ ?side1 ?side2 A16.out).mono ?_); (case side1 => exact Kd.V_mk HC0_3.out (Kd.F_below (Kd.C_F k80_heap HR0_3.out) Q13)); (case side2 => exact GG.nil _); rintro e w90 ⟨v400, rfl, ho0, hb⟩; refine ⟨_, rfl, ?_⟩; have n0_ := Aside0.mk (Kd.N_lower (Kd.N_mono (ok' := fun k_ => k_ ≠ gb392) ho0 (fun k_ hk_ => Or.elim hk_ (fun hs_ => fun e_ => Nat.not_le.2 hs_ (by rw [e_]; exact GW392.out)) (fun hn_ => (Kd.freshB (g := gb392) (o := .cells #[.int .i64 a0_0, .int .i64 a0_1, .bool a0_2, .slice A0_3 l0_3.length c0_3] 24 (0, 0)) Q22 k_ hn_)))) (below_size Q13)); have n1_ := Aside0.mk (blk_below (g := gb392) (o := .cells #[.int .i64 a0_0, .int .i64 a0_1, .bool a0_2, .slice A0_3 l0_3.length c0_3] 24 (0, 0)) Q22 hb); have n2_ := Aside0.mk (below_step Q13 hb); clear BK392; clear HB; have HO401 := n0_; have BK392 := n1_; have HB := n2_; clear n0_ n1_ n2_; (try clear hb); (try clear hb2); (try clear hk); (try clear hi); (try clear ho0); obtain ⟨Ao91, co91, eo91⟩ := Kd.N_slice HO401.out; subst eo91) | ((with_reducible refine gate_callee (f := 18) rfl ?_); refine goesL_ (some 19) rfl rfl Tryz.func18 Q0 rfl #[.agg #[.int .i64 t396, .int .i64 t397, .bool t398, .slice Ao91 t399.length co91]] rfl Q9 ?_; (with_reducible refine (vcode_Text.calls kj1 t396 t397 t398 _ _ t399 t402 (some q404) _ ?side1 ?side2 ?side3 A17.out).mono ?_); (case side1 => repeat (first | exact (Kd.N_reads' HO401.out).2.2 | (with_reducible refine Kd.C_alloc ?_ _) | (with_reducible refine Kd.C_drewN ?_ _) | (with_reducible refine Kd.C_drew ?_))); (case side2 => exact (Kd.N_reads' HO401.out).2.1); (case side3 => exact GG.sub (GG.below Q13 HG.out) Q12); rintro e w92 ⟨rfl, hb⟩; refine ⟨_, rfl, ?_⟩; have n0_ := Aside0.mk (Kd.N_below Q61 hb); have n1_ := Aside0.mk (blk_below (g := gb392) (o := .cells #[.int .i64 a0_0, .int .i64 a0_1, .bool a0_2, .slice A0_3 l0_3.length c0_3] 24 (0, 0)) Q22 hb); have n2_ := Aside0.mk (below_step Q13 hb); clear HO401; clear BK392; clear HB; have HO401 := n0_; have BK392 := n1_; have HB := n2_; clear n0_ n1_ n2_; (try clear hb); (try clear hb2); (try clear hk); (try clear hi); (try simp only [errW_none, errW_some]); have CA80 := fun W (hG_ : GG [1] W) => mandrellaw11_num.calls (some q404) t408 W hG_ A80.out; try simp only [errW_none, errW_some] at CA80) | (go_at_call 20; (with_reducible refine (CA80 _ ?side1).mono ?_); (case side1 => exact GG.sub (GG.below Q13 HG.out) Q12); rintro e w93 ⟨rfl, hb⟩; have n0_ := Aside0.mk (Kd.N_below Q61 hb); have n1_ := Aside0.mk (blk_below (g := gb392) (o := .cells #[.int .i64 a0_0, .int .i64 a0_1, .bool a0_2, .slice A0_3 l0_3.length c0_3] 24 (0, 0)) Q22 hb); have n2_ := Aside0.mk (below_step Q13 hb); clear HO401; clear BK392; clear HB; have HO401 := n0_; have BK392 := n1_; have HB := n2_; clear n0_ n1_ n2_; (try clear hb); (try clear hb2); (try clear hk); (try clear hi)))
   go_ret
   exact ⟨Q6, Q13⟩
section
open Go.ChangeShapes Go.WideShapes Go.Deep
variable {H : Type} {enc : TypeId × Value → H} {P : Program} {w : World} {base : Nat} {spare : Nat → Bool} {held : Bool}
def Opens {H : Type} (enc : TypeId × Value → H) (P : Program) (w : World) (base : Nat) (spare : Nat → Bool) (held : Bool) {α : Type} (d : Kd α) (wf : α → Prop) (t : TypeId) : Prop :=
  ∀ (fuel : Nat) (cs : List Value) (x : DataW H × List MemPlace), DataW.trod enc P w base spare held fuel t cs = some x → ∃ a : α, d.K w a cs ∧ wf a
theorem opens_int {k : IntKind} {t : TypeId} (ht : P.underlying t = some (.int k)) : Opens enc P w base spare held (Kd.int k) (fun n => (Lit.int k n).wf = true) t := by
  intro fuel cs x h
  obtain ⟨n, rfl, _, hw⟩ := DataW.trod_int ht h
  exact ⟨n, rfl, hw⟩
theorem opens_bool {t : TypeId} (ht : P.underlying t = some .bool) : Opens enc P w base spare held Kd.bool (fun _ => True) t := by
  intro fuel cs x h
  obtain ⟨b, rfl, _⟩ := DataW.trod_bool ht h
  exact ⟨b, rfl, trivial⟩
theorem opens_slice {α : Type} {d : Kd α} {wf : α → Prop} {t e : TypeId} (ht : P.underlying t = some (.slice e)) (hc : P.cellsOf e = d.sz) (z : α) (ho : Opens enc P w base spare held d wf e) :
    Opens enc P w base spare held (Kd.slice e d) (fun xs => xs.length ≤ maxLen ∧ ∀ x ∈ xs, wf x) t := by
  intro fuel cs x h
  rcases open_slice ht h with ⟨rfl, _⟩ | ⟨a, len, cap, m, n, D, Pl, rfl, hb, hl, hm, hmm, _, hx⟩
  · exact ⟨[], ⟨none, 0, rfl, Nat.le_refl _, rfl, by simp, fun h => absurd h (by simp)⟩, by simp [maxLen], by simp⟩
  · have hml : len ≤ m := by rw [hmm]; split <;> omega
    have hel : ∀ i, i < len → ∃ (a' : α) (c : List Value), c.length = d.sz ∧ d.K w a' c ∧ wf a' ∧ ∀ j u, c[j]? = some u → w.cell? (a.add (i * d.sz + j)) = some u := by
      intro i hi
      obtain ⟨cs', hcs, htr⟩ := hx i (by omega)
      obtain ⟨a', hK, hw⟩ := ho n cs' _ htr
      refine ⟨a', cs', d.K_len hK, hK, hw, fun j u hj => ?_⟩
      obtain ⟨_, hcl, hat⟩ := World.cells?_some hcs
      have hjl : j < cs'.length := (List.getElem?_eq_some_iff.1 hj).1
      have h1 := hat j (by rw [← hcl]; exact hjl)
      rw [hc] at h1
      rw [← Go.Deep.add_add, h1, hj]
    have hal : ∃ xs : List α, xs.length = len ∧ ∀ i, i < len → ∃ (c : List Value), c.length = d.sz ∧ d.K w (xs.getD i z) c ∧ wf (xs.getD i z) ∧ ∀ j u, c[j]? = some u → w.cell? (a.add (i * d.sz + j)) = some u := by
      refine ⟨(List.range len).map fun i => if h : i < len then Classical.choose (hel i h) else z, by simp, fun i hi => ?_⟩
      have hg : (((List.range len).map fun i => if h : i < len then Classical.choose (hel i h) else z).getD i z) = Classical.choose (hel i hi) := by
        rw [List.getD_eq_getElem?_getD, List.getElem?_map, List.getElem?_range hi]
        simp [hi]
      rw [hg]
      obtain ⟨c, h1, h2, h3, h4⟩ := Classical.choose_spec (hel i hi)
      exact ⟨c, h1, h2, h3, h4⟩
    obtain ⟨xs, hxl, hxs⟩ := hal
    have hat : ∀ (j : Nat) (p : α), xs[j]? = some p → j < len ∧ xs.getD j z = p := by
      intro j p hj
      have := (List.getElem?_eq_some_iff.1 hj).1
      exact ⟨by omega, by rw [List.getD_eq_getElem?_getD, hj]; rfl⟩
    refine ⟨xs, ⟨some a, cap, by rw [hxl], by omega, rfl, by unfold maxLen at hm; omega, fun _ => ⟨a, rfl, fun j p hj => ?_⟩⟩, by omega, fun p hp => ?_⟩
    · obtain ⟨hjl, hjp⟩ := hat j p hj
      obtain ⟨c, h1, h2, h3, h4⟩ := hxs j hjl
      rw [hjp] at h2
      exact ⟨c, h1, h2, h4⟩
    · obtain ⟨j, hj⟩ := List.getElem?_of_mem hp
      obtain ⟨hjl, hjp⟩ := hat j p hj
      obtain ⟨c, h1, h2, h3, h4⟩ := hxs j hjl
      rw [hjp] at h3
      exact h3
def OpensL {H : Type} (enc : TypeId × Value → H) (P : Program) (w : World) (base : Nat) (spare : Nat → Bool) (held : Bool) {α : Type} (d : Kd α) (wf : α → Prop) (ts : List TypeId) : Prop :=
  ∀ (n : Nat) (cs : List Value), cs.length = ts.length → (∀ (i : Nat) (t : TypeId) (v : Value), ts[i]? = some t → cs[i]? = some v → ∃ y, DataW.trod enc P w base spare held n t [v] = some y) → ∃ a : α, d.K w a cs ∧ wf a
theorem opensL_one {α : Type} {d : Kd α} {wf : α → Prop} {t : TypeId} (h : Opens enc P w base spare held d wf t) : OpensL enc P w base spare held d wf [t] := by
  intro n cs hl hc
  match cs, hl with
  | [v], _ =>
    obtain ⟨y, hy⟩ := hc 0 t v rfl rfl
    exact h n [v] y hy
theorem opensL_cons {α β : Type} {d : Kd α} {d' : Kd β} {wf : α → Prop} {wf' : β → Prop} {t : TypeId} {ts : List TypeId} (h : Opens enc P w base spare held d wf t) (h' : OpensL enc P w base spare held d' wf' ts) :
    OpensL enc P w base spare held (Kd.pair d d') (fun p => wf p.1 ∧ wf' p.2) (t :: ts) := by
  intro n cs hl hc
  match cs, hl with
  | v :: r, hl =>
    obtain ⟨y, hy⟩ := hc 0 t v rfl rfl
    obtain ⟨a, ha, wa⟩ := h n [v] y hy
    obtain ⟨b, hb, wb⟩ := h' n r (by simpa using hl) (fun i t' v' h1 h2 => hc (i + 1) t' v' (by simpa using h1) (by simpa using h2))
    exact ⟨(a, b), ⟨[v], r, rfl, ha, hb⟩, wa, wb⟩
theorem opens_iso {α β : Type} {d : Kd α} {wf : α → Prop} {t : TypeId} (f : β → α) (g : α → β) (hg : ∀ a, f (g a) = a) (h : Opens enc P w base spare held d wf t) : Opens enc P w base spare held (Kd.iso d f) (fun b => wf (f b)) t := by
  intro fuel cs x hx
  obtain ⟨a, ha, wa⟩ := h fuel cs x hx
  exact ⟨g a, by show d.K w (f (g a)) cs; rw [hg]; exact ha, by show wf (f (g a)); rw [hg]; exact wa⟩
theorem opens_struct {α : Type} {d : Kd α} {wf : α → Prop} {t : TypeId} {fs : Array Field} (ht : P.underlying t = some (.struct fs)) (hone : oneCellFields P fs = true) (hC : P.cellsOf t = fs.size)
    (h : OpensL enc P w base spare held d wf (fs.toList.map (·.type))) : Opens enc P w base spare held d wf t := by
  intro fuel cs x hx
  obtain ⟨ys, n, _, _, hlen, hyl, hf⟩ := DataW.trod_struct ht hx
  refine h n cs (by rw [hlen, hC]; simp) (fun i t' v h1 h2 => ?_)
  rw [List.getElem?_map] at h1
  obtain ⟨f, hfi, rfl⟩ := Option.map_eq_some_iff.1 h1
  have hfa : fs[i]? = some f := by rw [← hfi, Array.getElem?_toList]
  obtain ⟨ho, hk⟩ := hone_of hone i f hfa
  have h3 := hf i f hfa
  rw [ho, hk] at h3
  have hil : i < cs.length := (List.getElem?_eq_some_iff.1 h2).1
  have hv : (cs.drop i).take 1 = [v] := by
    rw [List.drop_eq_getElem_cons hil]
    have := (List.getElem?_eq_some_iff.1 h2).2
    simp [this]
  rw [hv] at h3
  have hiy : i < ys.length := by rw [hyl]; exact (Array.getElem?_eq_some_iff.1 hfa).1
  exact ⟨ys[i], by rw [h3, List.getElem?_eq_getElem hiy]⟩
end
end Go.Proofs.YthgkeehpoilgaaaGreatDoor.Hw
end
section
namespace Go.Proofs.YthgkeehpoilgaaaGreatDoor.Hw
open Go.RowKit Go.Proofs.YthgkeehpoilgaaaGreatDoorW.PrintWords
set_option linter.unusedVariables false
section
variable {H : Type} {enc : TypeId × Value → H} {w : World} {base : Nat} {spare : Nat → Bool} {held : Bool}
def W83 (x : S83) : Prop := (Lit.int .u8 x.f0).wf = true ∧ (Lit.int .i64 x.f1).wf = true ∧ (x.f2.length ≤ maxLen ∧ ∀ y0 ∈ x.f2, (Lit.int .i64 y0).wf = true) ∧ (Lit.int .i64 x.f3).wf = true ∧ (Lit.int .u32 x.f4).wf = true
theorem opens83 : Opens enc Tryz.prog w base spare held k83 W83 83 := opens_iso (fun x : S83 => (x.f0, x.f1, x.f2, x.f3, x.f4)) (fun p => ⟨p.1, p.2.1, p.2.2.1, p.2.2.2.1, p.2.2.2.2⟩) (fun _ => rfl) (opens_struct Tryz.underlying83 (by kernel_rfl) (by kernel_rfl) (opensL_cons (opens_int (by kernel_rfl)) (opensL_cons (opens_int (by kernel_rfl)) (opensL_cons (opens_slice (by kernel_rfl) (by kernel_rfl) (0 : Int) (opens_int (by kernel_rfl))) (opensL_cons (opens_int (by kernel_rfl)) (opensL_one (opens_int (by kernel_rfl))))))))
def W80 (x : S80) : Prop := (x.f0.length ≤ maxLen ∧ ∀ y0 ∈ x.f0, W83 y0) ∧ (x.f1.length ≤ maxLen ∧ ∀ y0 ∈ x.f1, (Lit.int .i64 y0).wf = true) ∧ (Lit.int .i64 x.f2).wf = true
theorem opens80 : Opens enc Tryz.prog w base spare held k80 W80 80 := opens_iso (fun x : S80 => (x.f0, x.f1, x.f2)) (fun p => ⟨p.1, p.2.1, p.2.2⟩) (fun _ => rfl) (opens_struct Tryz.underlying80 (by kernel_rfl) (by kernel_rfl) (opensL_cons (opens_slice (by kernel_rfl) (by kernel_rfl) z83 opens83) (opensL_cons (opens_slice (by kernel_rfl) (by kernel_rfl) (0 : Int) (opens_int (by kernel_rfl))) (opensL_one (opens_int (by kernel_rfl))))))
end
def mandrellaw11_VcodeLines.Pure : Prop := ∀ (a0_0 : Int) (a0_1 : Int) (a0_2 : Bool) (l0_3 : List (S80)), (Lit.int .i64 a0_0).wf = true → (Lit.int .i64 a0_1).wf = true → (l0_3.length ≤ maxLen ∧ ∀ y0 ∈ l0_3, W80 y0) → ∃ k : Nat, mandrellaw11_VcodeLines.f k a0_0 a0_1 a0_2 l0_3 = some true
end Go.Proofs.YthgkeehpoilgaaaGreatDoor.Hw
end
section
namespace Go.Proofs.YthgkeehpoilgaaaGreatDoor.Pure
open Go.RowKit Go.Proofs.YthgkeehpoilgaaaGreatDoor.Hw Go.Proofs.YthgkeehpoilgaaaGreatDoorW.PrintWords Go.Proofs.YthgkeehpoilgaaaGreatDoorW.PrintLast Go.Proofs.YthgkeehpoilgaaaGreatDoorW.PrintMore
theorem w64 (x : Int) (h0 : -9223372036854775808 ≤ x) (h1 : x ≤ 9223372036854775807) : wrap64 x = x := by unfold wrap64; omega
theorem w64n (i : Nat) (h : i < 9223372036854775807) : wrap64 ((i : Int) + 1) = ((i + 1 : Nat) : Int) := by rw [w64 _ (by omega) (by omega)]; omega
theorem drop80 (l : List S80) (i : Nat) (h : i < l.length) : l.drop i = rd_T80 l (i : Int) :: l.drop (i + 1) := by
  rw [List.drop_eq_getElem_cons h]
  simp [rd_T80, List.getD_eq_getElem?_getD, List.getElem?_eq_getElem h]
theorem drop83 (l : List S83) (i : Nat) (h : i < l.length) : l.drop i = rd_T83 l (i : Int) :: l.drop (i + 1) := by
  rw [List.drop_eq_getElem_cons h]
  simp [rd_T83, List.getD_eq_getElem?_getD, List.getElem?_eq_getElem h]
def hvIns : List S83 → Int → Int
  | [], n => n
  | x :: r, n => if n < 4000 then hvIns r (n + 1 + mn (x.f2.length : Int) 4000) else n
def hvBlk : List S80 → Int → Int
  | [], n => n
  | b :: r, n => if n < 4000 then hvBlk r (hvIns b.f0 (n + mn (b.f1.length : Int) 4000)) else n
theorem mn_range (a : Nat) : 0 ≤ mn (a : Int) 4000 ∧ mn (a : Int) 4000 ≤ 4000 := by unfold mn; split <;> omega
theorem hvIns_le : ∀ (l : List S83) (n : Int), n ≤ hvIns l n
  | [], n => Int.le_refl _
  | x :: r, n => by
    unfold hvIns
    split
    · have := hvIns_le r (n + 1 + mn (x.f2.length : Int) 4000)
      have := mn_range x.f2.length
      omega
    · exact Int.le_refl _
theorem hvIns_many : ∀ (l : List S83) (n : Int), hvIns l n ≤ 1500 → n + l.length ≤ hvIns l n
  | [], n, _ => by simp [hvIns]
  | x :: r, n, h => by
    unfold hvIns at h ⊢
    split at h
    · rename_i hn
      rw [if_pos hn]
      have := hvIns_many r _ h
      have := mn_range x.f2.length
      simp only [List.length_cons]
      omega
    · omega
theorem hvBlk_le : ∀ (l : List S80) (n : Int), n ≤ hvBlk l n
  | [], n => Int.le_refl _
  | b :: r, n => by
    unfold hvBlk
    split
    · have := hvBlk_le r (hvIns b.f0 (n + mn (b.f1.length : Int) 4000))
      have := hvIns_le b.f0 (n + mn (b.f1.length : Int) 4000)
      have := mn_range b.f1.length
      omega
    · exact Int.le_refl _
theorem hvBlk_few : ∀ (l : List S80) (n : Int), 0 ≤ n → hvBlk l n ≤ 1500 → ∀ b ∈ l, (b.f0.length : Int) ≤ 1500
  | [], n, _, _ => by simp
  | b :: r, n, h0, h => by
    unfold hvBlk at h
    split at h
    · have h1 := hvBlk_le r (hvIns b.f0 (n + mn (b.f1.length : Int) 4000))
      have h2 := mn_range b.f1.length
      have h3 := hvIns_many b.f0 (n + mn (b.f1.length : Int) 4000) (by omega)
      intro c hc
      rcases List.mem_cons.1 hc with rfl | hc
      · omega
      · exact hvBlk_few r _ (by omega) h c hc
    · omega
theorem hv_inner (p r : Int) (b : Bool) (l : List S80) (i : Nat) (hi : i < l.length) (hil : (rd_T80 l (i : Int)).f0.length ≤ maxLen) (hlm : l.length ≤ maxLen) (R : Int → Bool)
    (H : ∀ n : Int, 0 ≤ n → n ≤ 12000 → Ev (fun k => mandrellaw11_heavy.l0 k n ((i + 1 : Nat) : Int) p r b l) (R n)) :
    ∀ (d j : Nat) (n : Int), j + d = (rd_T80 l (i : Int)).f0.length → 0 ≤ n → n ≤ 8000 → Ev (fun k => mandrellaw11_heavy.l1 k n (i : Int) (j : Int) p r b l) (R (hvIns ((rd_T80 l (i : Int)).f0.drop j) n)) := by
  unfold maxLen at hil hlm
  have hw : wrap64 ((i : Int) + 1) = ((i + 1 : Nat) : Int) := w64n i (by omega)
  intro d
  induction d with
  | zero =>
    intro j n hj h0 h1
    rw [List.drop_eq_nil_of_le (by omega)]
    refine Ev.step (f := fun k => mandrellaw11_heavy.l0 k n ((i + 1 : Nat) : Int) p r b l) (fun k => ?_) (H n h0 (by omega))
    simp only [mandrellaw11_heavy.l1]
    rw [if_pos (by omega), if_pos (by omega), if_neg (by omega), hw]
  | succ d ih =>
    intro j n hj h0 h1
    have hjl : j < (rd_T80 l (i : Int)).f0.length := by omega
    rw [drop83 _ j hjl]
    unfold hvIns
    by_cases hn : n < 4000
    · rw [if_pos hn]
      have hm := mn_range (rd_T83 (rd_T80 l (i : Int)).f0 (j : Int)).f2.length
      refine Ev.step (f := fun k => mandrellaw11_heavy.l1 k (n + 1 + mn ((rd_T83 (rd_T80 l (i : Int)).f0 (j : Int)).f2.length : Int) 4000) (i : Int) ((j + 1 : Nat) : Int) p r b l) (fun k => ?_) (ih (j + 1) _ (by omega) (by omega) (by omega))
      simp only [mandrellaw11_heavy.l1]
      rw [if_pos (by omega), if_pos (by omega), if_pos (by omega), if_pos hn, if_pos (by omega), w64 (n + 1) (by omega) (by omega), w64 _ (by omega) (by omega), w64n j (by omega)]
    · rw [if_neg hn]
      refine Ev.step (f := fun k => mandrellaw11_heavy.l0 k n ((i + 1 : Nat) : Int) p r b l) (fun k => ?_) (H n h0 (by omega))
      simp only [mandrellaw11_heavy.l1]
      rw [if_pos (by omega), if_pos (by omega), if_pos (by omega), if_neg hn, hw]
theorem hv_outer (p r : Int) (b : Bool) (l : List S80) (hlm : l.length ≤ maxLen) (hin : ∀ x ∈ l, x.f0.length ≤ maxLen) :
    ∀ (d i : Nat) (n : Int), i + d = l.length → 0 ≤ n → n ≤ 12000 → Ev (fun k => mandrellaw11_heavy.l0 k n (i : Int) p r b l) (decide (hvBlk (l.drop i) n > 1500)) := by
  have hlm' := hlm
  unfold maxLen at hlm'
  intro d
  induction d with
  | zero =>
    intro i n hi h0 h1
    rw [List.drop_eq_nil_of_le (by omega)]
    refine Ev.step (f := fun k => mandrellaw11_heavy.j1 k n (i : Int) false p r b l) (fun k => ?_) (Ev.step (f := fun _ => some (decide (n > 1500))) (fun k => ?_) (Ev.now _))
    · simp only [mandrellaw11_heavy.l0]
      rw [if_neg (by omega)]
    · simp only [mandrellaw11_heavy.j1]
      rw [if_neg (by decide)]
  | succ d ih =>
    intro i n hi h0 h1
    have hil : i < l.length := by omega
    rw [drop80 l i hil]
    unfold hvBlk
    by_cases hn : n < 4000
    · rw [if_pos hn]
      have hm := mn_range (rd_T80 l (i : Int)).f1.length
      have hx : (rd_T80 l (i : Int)).f0.length ≤ maxLen := hin _ (by
        have : rd_T80 l (i : Int) = l[i] := by simp [rd_T80, List.getD_eq_getElem?_getD, List.getElem?_eq_getElem hil]
        rw [this]
        exact List.getElem_mem hil)
      refine Ev.step (f := fun k => mandrellaw11_heavy.j1 k n (i : Int) true p r b l) (fun k => ?_) (Ev.step (f := fun k => mandrellaw11_heavy.l1 k (n + mn ((rd_T80 l (i : Int)).f1.length : Int) 4000) (i : Int) ((0 : Nat) : Int) p r b l) (fun k => ?_)
        (hv_inner p r b l i hil hx hlm (fun n => decide (hvBlk (l.drop (i + 1)) n > 1500)) (fun n h0 h1 => ih (i + 1) n (by omega) h0 h1) (rd_T80 l (i : Int)).f0.length 0 _ (by omega) (by omega) (by omega)))
      · simp only [mandrellaw11_heavy.l0]
        rw [if_pos (by omega), decide_eq_true hn]
      · simp only [mandrellaw11_heavy.j1]
        rw [if_pos (by first | rfl | trivial), if_pos (by omega), if_pos (by omega), w64 _ (by omega) (by omega)]
        rfl
    · rw [if_neg hn]
      refine Ev.step (f := fun k => mandrellaw11_heavy.j1 k n (i : Int) false p r b l) (fun k => ?_) (Ev.step (f := fun _ => some (decide (n > 1500))) (fun k => ?_) (Ev.now _))
      · simp only [mandrellaw11_heavy.l0]
        rw [if_pos (by omega), decide_eq_false hn]
      · simp only [mandrellaw11_heavy.j1]
        rw [if_neg (by decide)]
theorem heavy_is (p r : Int) (b : Bool) (l : List S80) (hlm : l.length ≤ maxLen) (hin : ∀ x ∈ l, x.f0.length ≤ maxLen) :
    Ev (fun k => mandrellaw11_heavy.f k p r b l) true ∨ (Ev (fun k => mandrellaw11_heavy.f k p r b l) false ∧ l.length ≤ 200 ∧ (∀ x ∈ l, (x.f0.length : Int) ≤ 1500) ∧ hvBlk l 0 ≤ 1500) := by
  by_cases h : (l.length : Int) > 200
  · left
    refine Ev.congr (f := fun _ => some true) (fun k => ?_) (Ev.now _)
    unfold mandrellaw11_heavy.f
    rw [if_pos h]
  · have h1 := hv_outer p r b l hlm hin l.length 0 0 (by omega) (by omega) (by omega)
    have h2 : Ev (fun k => mandrellaw11_heavy.f k p r b l) (decide (hvBlk l 0 > 1500)) := by
      refine Ev.congr (f := fun k => mandrellaw11_heavy.l0 k 0 ((0 : Nat) : Int) p r b l) (fun k => ?_) h1
      unfold mandrellaw11_heavy.f
      rw [if_neg h]
      rfl
    by_cases hb : hvBlk l 0 > 1500
    · left
      rw [decide_eq_true hb] at h2
      exact h2
    · right
      rw [decide_eq_false hb] at h2
      exact ⟨h2, by omega, hvBlk_few l 0 (by omega) (by omega), by omega⟩
abbrev tCI : List UInt8 := [99, 97, 108, 108, 95, 105, 110, 100, 105, 114, 101, 99, 116]
abbrev tRET : List UInt8 := [114, 101, 116, 117, 114, 110]
abbrev tGG : List UInt8 := [103, 108, 111, 98, 97, 108, 46, 103, 101, 116]
abbrev tGS : List UInt8 := [103, 108, 111, 98, 97, 108, 46, 115, 101, 116]
abbrev tCALL : List UInt8 := [99, 97, 108, 108]
abbrev tCONST : List UInt8 := [99, 111, 110, 115, 116]
abbrev tJUMP : List UInt8 := [106, 117, 109, 112]
abbrev tBRANCH : List UInt8 := [98, 114, 97, 110, 99, 104]
abbrev tTABLE : List UInt8 := [116, 97, 98, 108, 101]
structure OpF (op : Int) (s : ByteArray) (tk gv : Int) (me : Bool) (tk' le : Int) (gv' fr is : Bool) : Prop where
  name : Ev (fun k => mandrelref11_Name.f k op) s
  shape : Ev (fun k => mandrelref11_Shape.f k op) (tk, gv)
  mem : Ev (fun k => mandrelref11_Memory.f k op) me
  own : Ev (fun k => vcode_shapeOf.f k op) (tk', le, gv', fr, is)
  memO : vcode_memory.f op = some me
  nameO : vcode_nameOf.f op = some s
  isO : is = true
  takes : 0 ≤ tk → tk' = tk ∧ le ≤ tk
  many : tk < 0 → tk' < 0 ∧ (le = if s.toList = tCI then 1 else 0)
  gives : fr = (gv == 2) ∧ (gv ≠ 2 → gv' = (gv == 1))
  ret : s.toList = tRET ↔ op = 15
  call : s.toList = tCALL ↔ op = 16
  ci : s.toList = tCI ↔ op = 17
  gg : s.toList = tGG ↔ op = 35
  gs : s.toList = tGS ↔ op = 36
  const : s.toList = tCONST ↔ op = 66
  jump : s.toList = tJUMP ↔ op = 193
  branch : s.toList = tBRANCH ↔ op = 194
  table : s.toList = tTABLE ↔ op = 195
  lines : (10 : UInt8) ∉ s.toList
def opRow (n : Nat) : Bool := match mandrelref11_Name.f 40 (n : Int) with
  | none => false
  | some s => if s.toList = [] then true else match mandrelref11_Shape.f 40 (n : Int), mandrelref11_Memory.f 40 (n : Int), vcode_shapeOf.f 40 (n : Int), vcode_memory.f (n : Int), vcode_nameOf.f (n : Int) with
    | some (tk, gv), some me, some (tk', le, gv', fr, is), some me', some s' =>
      (me == me') && decide (s = s') && is && (!decide (0 ≤ tk) || (decide (tk' = tk) && decide (le ≤ tk))) && (decide (0 ≤ tk) || (decide (tk' < 0) && decide (le = if s.toList = tCI then 1 else 0)))
      && (fr == (gv == 2)) && (gv == 2 || (gv' == (gv == 1)))
      && (decide (s.toList = tRET) == decide (n = 15)) && (decide (s.toList = tCALL) == decide (n = 16)) && (decide (s.toList = tCI) == decide (n = 17)) && (decide (s.toList = tGG) == decide (n = 35)) && (decide (s.toList = tGS) == decide (n = 36))
      && (decide (s.toList = tCONST) == decide (n = 66)) && (decide (s.toList = tJUMP) == decide (n = 193)) && (decide (s.toList = tBRANCH) == decide (n = 194)) && (decide (s.toList = tTABLE) == decide (n = 195)) && decide ((10 : UInt8) ∉ s.toList)
    | _, _, _, _, _ => false
def stabB (k n : Nat) : Bool := decide (mandrelref11_Name.f (k + 40) (n : Int) = mandrelref11_Name.f 40 (n : Int)) && decide (mandrelref11_Shape.f (k + 40) (n : Int) = mandrelref11_Shape.f 40 (n : Int)) && decide (mandrelref11_Memory.f (k + 40) (n : Int) = mandrelref11_Memory.f 40 (n : Int)) && decide (vcode_shapeOf.f (k + 40) (n : Int) = vcode_shapeOf.f 40 (n : Int))
theorem stab_all (k : Nat) : ((List.range 256).all (stabB k)) = true := by kernel_rfl
theorem stab (n : Nat) (h : n < 256) (k : Nat) : mandrelref11_Name.f (k + 40) (n : Int) = mandrelref11_Name.f 40 (n : Int) ∧ mandrelref11_Shape.f (k + 40) (n : Int) = mandrelref11_Shape.f 40 (n : Int) ∧ mandrelref11_Memory.f (k + 40) (n : Int) = mandrelref11_Memory.f 40 (n : Int) ∧ vcode_shapeOf.f (k + 40) (n : Int) = vcode_shapeOf.f 40 (n : Int) := by
  have h := List.all_eq_true.1 (stab_all k) n (List.mem_range.2 h)
  unfold stabB at h
  simp only [Bool.and_eq_true, decide_eq_true_eq] at h
  exact ⟨h.1.1.1, h.1.1.2, h.1.2, h.2⟩
theorem ev_stab {α : Type} {g : Nat → Option α} {r : α} (h : ∀ k, g (k + 40) = g 40) (e : g 40 = some r) : Ev g r := ⟨40, fun k hk => by
  obtain ⟨m, rfl⟩ := Nat.exists_eq_add_of_le hk
  rw [Nat.add_comm, h, e]⟩
theorem op_rows : ∀ n : Nat, n < 256 → opRow n = true := by decide +kernel
theorem dec_iff {p q : Prop} [Decidable p] [Decidable q] (h : (decide p == decide q) = true) : p ↔ q := by
  have := eq_of_beq h
  constructor
  · intro hp; exact of_decide_eq_true (by rw [← this]; exact decide_eq_true hp)
  · intro hq; exact of_decide_eq_true (by rw [this]; exact decide_eq_true hq)
theorem op_is (op : Int) (h0 : 0 ≤ op) (h1 : op ≤ 255) :
    (∃ s : ByteArray, s.toList = [] ∧ Ev (fun k => mandrelref11_Name.f k op) s) ∨ ∃ s tk gv me tk' le gv' fr is, s.toList ≠ [] ∧ OpF op s tk gv me tk' le gv' fr is := by
  obtain ⟨n, rfl⟩ := Int.eq_ofNat_of_zero_le h0
  have h := op_rows n (by omega)
  unfold opRow at h
  cases hN : mandrelref11_Name.f 40 (n : Int) with
  | none => rw [hN] at h; cases h
  | some s =>
    rw [hN] at h
    have eN := ev_stab (g := fun k => mandrelref11_Name.f k (n : Int)) (fun k => (stab n (by omega) k).1) hN
    dsimp only at h
    by_cases he : s.toList = []
    · exact .inl ⟨s, he, eN⟩
    · rw [if_neg he] at h
      right
      cases hS : mandrelref11_Shape.f 40 (n : Int) with
      | none => rw [hS] at h; cases h
      | some q =>
        obtain ⟨tk, gv⟩ := q
        cases hM : mandrelref11_Memory.f 40 (n : Int) with
        | none => rw [hS, hM] at h; cases h
        | some me =>
          cases hO : vcode_shapeOf.f 40 (n : Int) with
          | none => rw [hS, hM, hO] at h; cases h
          | some q =>
            obtain ⟨tk', le, gv', fr, is⟩ := q
            cases hm : vcode_memory.f (n : Int) with
            | none => rw [hS, hM, hO, hm] at h; cases h
            | some me' =>
              cases hn : vcode_nameOf.f (n : Int) with
              | none => rw [hS, hM, hO, hm, hn] at h; cases h
              | some s' =>
                rw [hS, hM, hO, hm, hn] at h
                simp only [Bool.and_eq_true] at h
                obtain ⟨⟨⟨⟨⟨⟨⟨⟨⟨⟨⟨⟨⟨⟨⟨⟨g1, g2⟩, g3⟩, g4⟩, g5⟩, g6⟩, g7⟩, g8⟩, g9⟩, g10⟩, g11⟩, g12⟩, g13⟩, g14⟩, g15⟩, g16⟩, g17⟩ := h
                have e1 : me = me' := by simpa using g1
                have e2 : s = s' := of_decide_eq_true g2
                subst e1
                subst e2
                have up : ∀ m : Nat, ((n : Int) = (m : Int)) ↔ n = m := fun m => by omega
                exact ⟨s, tk, gv, me, tk', le, gv', fr, is, he, eN, ev_stab (g := fun k => mandrelref11_Shape.f k (n : Int)) (fun k => (stab n (by omega) k).2.1) hS, ev_stab (g := fun k => mandrelref11_Memory.f k (n : Int)) (fun k => (stab n (by omega) k).2.2.1) hM, ev_stab (g := fun k => vcode_shapeOf.f k (n : Int)) (fun k => (stab n (by omega) k).2.2.2) hO, hm, hn, g3,
                  fun h => by simpa [h] using g4, fun h => by simpa [show ¬ 0 ≤ tk by omega] using g5, ⟨by simpa using g6, fun h => by simpa [h] using g7⟩,
                  (dec_iff g8).trans (up 15).symm, (dec_iff g9).trans (up 16).symm, (dec_iff g10).trans (up 17).symm, (dec_iff g11).trans (up 35).symm, (dec_iff g12).trans (up 36).symm, (dec_iff g13).trans (up 66).symm, (dec_iff g14).trans (up 193).symm, (dec_iff g15).trans (up 194).symm, (dec_iff g16).trans (up 195).symm, of_decide_eq_true g17⟩
def conv83 (x : S83) : S84 := ⟨x.f0, x.f1, x.f2, x.f3, x.f4⟩
def conv80 (x : S80) : S87 := ⟨x.f0.map conv83, x.f1, x.f2⟩
def numB (s : ByteArray) (b : Bool) (src : List Int) (n : Int) : Bool := if s.toList = tRET then (if b = true then (if (src.length : Int) = 1 then (n == 0) else false) else (if (src.length : Int) = 0 then (n == 0) else false)) else (if s.toList = tGG then decide (n ≥ 0) else (if s.toList = tGS then decide (n ≥ 0) else (if s.toList = tCALL then decide (n ≥ 0) else (if s.toList = tCI then decide (n ≥ 0) else (if s.toList = tCONST then true else (n == 0))))))
theorem j2_eq (k : Nat) (s : ByteArray) (x : Bool) (p r : Int) (b : Bool) (l : List S80) (op dst : Int) (src : List Int) (n off : Int) :
    mandrelref11_ins.j2 (k + 1) s x p r b l op dst src n off = some (if x = true then false else numB s b src n) := by
  simp only [mandrelref11_ins.j2]
  by_cases hx : x = true
  · rw [if_pos hx, if_pos hx]
  · rw [if_neg hx, if_neg hx]
    unfold numB
    rw [apply_ite some, apply_ite some, apply_ite some, apply_ite some, apply_ite some, apply_ite some, apply_ite some, apply_ite some, apply_ite some]
def offB (s : ByteArray) (src : List Int) (off : Int) (me : Bool) : Bool := (decide (s.toList = tCI) && decide (src.length = 0)) || (decide (off ≠ 0) && !me)
theorem j1_ev (s : ByteArray) (x : Bool) (p r : Int) (b : Bool) (l : List S80) (op dst : Int) (src : List Int) (n off : Int) (me : Bool) (hM : Ev (fun k => mandrelref11_Memory.f k op) me) :
    Ev (fun k => mandrelref11_ins.j1 k s x p r b l op dst src n off) (if x = true then false else if offB s src off me = true then false else numB s b src n) := by
  have two : ∀ (y : Bool), Ev (fun k => mandrelref11_ins.j2 k s y p r b l op dst src n off) (if y = true then false else numB s b src n) := fun y =>
    Ev.step (f := fun _ => some (if y = true then false else numB s b src n)) (fun k => j2_eq k s y p r b l op dst src n off) (Ev.now _)
  by_cases hx : x = true
  · rw [if_pos hx]
    refine Ev.step (f := fun _ => some false) (fun k => ?_) (Ev.now _)
    simp only [mandrelref11_ins.j1]
    rw [if_pos hx]
  · rw [if_neg hx]
    by_cases hci : s.toList = tCI ∧ src.length = 0
    · have ho : offB s src off me = true := by simp [offB, hci.1, hci.2]
      rw [if_pos ho]
      refine Ev.step (f := fun k => mandrelref11_ins.j2 k s true p r b l op dst src n off) (fun k => ?_) (by simpa using two true)
      simp only [mandrelref11_ins.j1]
      rw [if_neg hx, if_pos hci.1, if_pos (by omega)]
    · by_cases h0 : off = 0
      · have ho : offB s src off me = false := by
          simp only [offB, h0, ne_eq, not_true_eq_false, decide_false, Bool.false_and, Bool.or_false, Bool.and_eq_false_iff, decide_eq_false_iff_not]
          exact Classical.not_and_iff_not_or_not.1 hci
        rw [if_neg (by rw [ho]; decide)]
        refine Ev.step (f := fun k => mandrelref11_ins.j2 k s false p r b l op dst src n off) (fun k => ?_) (by simpa using two false)
        simp only [mandrelref11_ins.j1]
        rw [if_neg hx]
        by_cases hc : s.toList = tCI
        · rw [if_pos hc, if_neg (by intro q; exact hci ⟨hc, by omega⟩), if_pos h0]
        · rw [if_neg hc, if_pos h0]
      · have ho : offB s src off me = !me := by
          have h1 : (decide (s.toList = tCI) && decide (src.length = 0)) = false := by
            simp only [Bool.and_eq_false_iff, decide_eq_false_iff_not]
            exact Classical.not_and_iff_not_or_not.1 hci
          unfold offB
          rw [h1, Bool.false_or, decide_eq_true h0, Bool.true_and]
        rw [ho]
        refine Ev.step (f := fun k => (mandrelref11_Memory.f k op).bind fun t => mandrelref11_ins.j2 k s (!t) p r b l op dst src n off) (fun k => ?_) (Ev.bind hM (two (!me)))
        simp only [mandrelref11_ins.j1]
        rw [if_neg hx]
        by_cases hc : s.toList = tCI
        · rw [if_pos hc, if_neg (by intro q; exact hci ⟨hc, by omega⟩), if_neg h0]
        · rw [if_neg hc, if_neg h0]
def shapeB (tk gv dst r : Int) (src : List Int) : Bool := (decide (0 ≤ tk) && decide ((src.length : Int) ≠ tk)) || decide (dst < -1) || decide (dst ≥ r) || (decide (gv ≠ 2) && ((gv == 1) != decide (dst ≥ 0)))
def insB (s : ByteArray) (tk gv : Int) (me : Bool) (r : Int) (b : Bool) (dst : Int) (src : List Int) (n off : Int) : Bool :=
  (src.all fun y => decide (0 ≤ y) && decide (y < r)) && !shapeB tk gv dst r src && !offB s src off me && numB s b src n
theorem l0_ev (s : ByteArray) (tk gv : Int) (me : Bool) (p r : Int) (b : Bool) (l : List S80) (op dst : Int) (src : List Int) (n off : Int) (hsl : src.length ≤ maxLen) (hS : Ev (fun k => mandrelref11_Shape.f k op) (tk, gv)) (hM : Ev (fun k => mandrelref11_Memory.f k op) me) :
    ∀ (d i : Nat), i + d = src.length → Ev (fun k => mandrelref11_ins.l0 k s (i : Int) p r b l op dst src n off) (((src.drop i).all fun y => decide (0 ≤ y) && decide (y < r)) && !shapeB tk gv dst r src && !offB s src off me && numB s b src n) := by
  unfold maxLen at hsl
  intro d
  induction d with
  | zero =>
    intro i hi
    rw [List.drop_eq_nil_of_le (by omega)]
    have e : (([] : List Int).all fun y => decide (0 ≤ y) && decide (y < r)) = true := rfl
    rw [e, Bool.true_and]
    have fin : ∀ x : Bool, x = shapeB tk gv dst r src → Ev (fun k => mandrelref11_ins.j1 k s x p r b l op dst src n off) (!shapeB tk gv dst r src && !offB s src off me && numB s b src n) := by
      intro x hx
      have h := j1_ev s x p r b l op dst src n off me hM
      rw [← hx]
      have e2 : (if x = true then false else if offB s src off me = true then false else numB s b src n) = (!x && !offB s src off me && numB s b src n) := by
        cases x <;> cases offB s src off me <;> simp
      rw [← e2]
      exact h
    refine Ev.step (f := fun k => (mandrelref11_Shape.f k op).bind fun q => mandrelref11_ins.j1 k s (shapeB q.1 q.2 dst r src) p r b l op dst src n off) (fun k => ?_) (Ev.bind hS (fin _ rfl))
    simp only [mandrelref11_ins.l0]
    rw [if_neg (by omega)]
    refine congrArg _ (funext fun q => ?_)
    unfold shapeB
    by_cases a1 : q.1 ≥ 0
    · rw [if_pos a1]
      by_cases a2 : (src.length : Int) = q.1
      · rw [if_pos a2]
        by_cases a3 : dst < -1
        · rw [if_pos a3]; simp [a3]
        · rw [if_neg a3]
          by_cases a4 : dst ≥ r
          · rw [if_pos a4]; simp [a4]
          · rw [if_neg a4]
            by_cases a5 : q.2 = 2
            · rw [if_pos a5]; simp [a2, a3, a4, a5]
            · rw [if_neg a5]; simp [a2, a3, a4, a5]
      · rw [if_neg a2]
        have a1' : 0 ≤ q.1 := a1
        simp [a1', a2]
    · rw [if_neg a1]
      have a1' : ¬ 0 ≤ q.1 := a1
      by_cases a3 : dst < -1
      · rw [if_pos a3]; simp [a3]
      · rw [if_neg a3]
        by_cases a4 : dst ≥ r
        · rw [if_pos a4]; simp [a4]
        · rw [if_neg a4]
          by_cases a5 : q.2 = 2
          · rw [if_pos a5]; simp [a1', a3, a4, a5]
          · rw [if_neg a5]; simp [a1', a3, a4, a5]
  | succ d ih =>
    intro i hi
    have hil : i < src.length := by omega
    have hd : src.drop i = rd src (i : Int) :: src.drop (i + 1) := by
      rw [List.drop_eq_getElem_cons hil]
      simp [rd, List.getD_eq_getElem?_getD, List.getElem?_eq_getElem hil]
    rw [hd, List.all_cons]
    by_cases a1 : rd src (i : Int) < 0
    · have e : decide (0 ≤ rd src (i : Int)) = false := decide_eq_false (by omega)
      rw [e]
      simp only [Bool.false_and]
      refine Ev.step (f := fun _ => some false) (fun k => ?_) (Ev.now _)
      simp only [mandrelref11_ins.l0]
      rw [if_pos (by omega), if_pos (by omega), if_pos a1]
    · by_cases a2 : rd src (i : Int) ≥ r
      · have e : decide (rd src (i : Int) < r) = false := decide_eq_false (by omega)
        rw [e]
        simp only [Bool.and_false, Bool.false_and]
        refine Ev.step (f := fun _ => some false) (fun k => ?_) (Ev.now _)
        simp only [mandrelref11_ins.l0]
        rw [if_pos (by omega), if_pos (by omega), if_neg a1, if_pos a2]
      · have e1 : decide (0 ≤ rd src (i : Int)) = true := decide_eq_true (by omega)
        have e2 : decide (rd src (i : Int) < r) = true := decide_eq_true (by omega)
        rw [e1, e2, Bool.and_self, Bool.true_and]
        refine Ev.step (f := fun k => mandrelref11_ins.l0 k s ((i + 1 : Nat) : Int) p r b l op dst src n off) (fun k => ?_) (ih (i + 1) (by omega))
        simp only [mandrelref11_ins.l0]
        rw [if_pos (by omega), if_pos (by omega), if_neg a1, if_neg a2, w64n i (by omega)]
def InsGood (r : Int) (b : Bool) (x : S83) : Prop := Ev (fun k => mayO k r b (conv83 x)) true ∧ ∃ s tk gv me tk' le gv' fr is, OpF x.f0 s tk gv me tk' le gv' fr is
theorem numbered_is (op dst : Int) (src : List Int) (n off : Int) (s : ByteArray) (tk gv : Int) (me : Bool) (tk' le : Int) (gv' fr is : Bool) (F : OpF op s tk gv me tk' le gv' fr is) (b : Bool) (h : numB s b src n = true) :
    vcode_numbered.f op dst src n off = some true ∧ (op = 15 → (((src.length : Int) == 1) == b) = true ∧ (src.length : Int) ≤ 1) := by
  unfold numB at h
  unfold vcode_numbered.f
  by_cases c0 : op = 66
  · subst c0
    exact ⟨by rw [if_pos rfl], fun h => by omega⟩
  · have n0 := fun q => c0 (F.const.1 q)
    rw [if_neg c0]
    by_cases c1 : op = 35
    · subst c1
      have e := F.gg.2 rfl
      rw [if_neg (by intro q; have := F.ret.1 q; omega), if_pos e] at h
      exact ⟨by rw [if_pos rfl]; exact congrArg some h, fun h => by omega⟩
    · rw [if_neg c1]
      by_cases c2 : op = 36
      · subst c2
        have e := F.gs.2 rfl
        rw [if_neg (by intro q; have := F.ret.1 q; omega), if_neg (by intro q; have := F.gg.1 q; omega), if_pos e] at h
        exact ⟨by rw [if_pos rfl]; exact congrArg some h, fun h => by omega⟩
      · rw [if_neg c2]
        by_cases c3 : op = 16
        · subst c3
          have e := F.call.2 rfl
          rw [if_neg (by intro q; have := F.ret.1 q; omega), if_neg (by intro q; have := F.gg.1 q; omega), if_neg (by intro q; have := F.gs.1 q; omega), if_pos e] at h
          exact ⟨by rw [if_pos rfl]; exact congrArg some h, fun h => by omega⟩
        · rw [if_neg c3]
          by_cases c4 : op = 17
          · subst c4
            have e := F.ci.2 rfl
            rw [if_neg (by intro q; have := F.ret.1 q; omega), if_neg (by intro q; have := F.gg.1 q; omega), if_neg (by intro q; have := F.gs.1 q; omega), if_neg (by intro q; have := F.call.1 q; omega), if_pos e] at h
            exact ⟨by rw [if_pos rfl]; exact congrArg some h, fun h => by omega⟩
          · rw [if_neg c4]
            by_cases c5 : op = 15
            · rw [if_pos (F.ret.2 c5)] at h
              cases b with
              | true =>
                rw [if_pos rfl] at h
                by_cases hl : (src.length : Int) = 1
                · rw [if_pos hl] at h
                  exact ⟨congrArg some h, fun _ => ⟨by rw [hl]; rfl, by omega⟩⟩
                · rw [if_neg hl] at h; cases h
              | false =>
                rw [if_neg (by decide)] at h
                by_cases hl : (src.length : Int) = 0
                · rw [if_pos hl] at h
                  exact ⟨congrArg some h, fun _ => ⟨by rw [hl]; rfl, by omega⟩⟩
                · rw [if_neg hl] at h; cases h
            · rw [if_neg (fun q => c5 (F.ret.1 q)), if_neg (fun q => c1 (F.gg.1 q)), if_neg (fun q => c2 (F.gs.1 q)), if_neg (fun q => c3 (F.call.1 q)), if_neg (fun q => c4 (F.ci.1 q)), if_neg n0] at h
              exact ⟨congrArg some h, fun q => absurd q c5⟩
theorem away_any (src : List Int) (r : Int) (h : (src.all fun y => decide (0 ≤ y) && decide (y < r)) = true) : (src.any fun x => awayB x r) = false := by
  rw [List.any_eq_false]
  intro x hx
  have := List.all_eq_true.1 h x hx
  simp only [Bool.and_eq_true, decide_eq_true_eq] at this
  unfold awayB
  simp
  omega
theorem ins_is (p r : Int) (b : Bool) (l : List S80) (x : S83) (h0 : 0 ≤ x.f0) (h1 : x.f0 ≤ 255) (hsl : x.f2.length ≤ maxLen) :
    ∃ v, Ev (fun k => mandrelref11_ins.f k p r b l x.f0 x.f1 x.f2 x.f3 x.f4) v ∧ (v = true → InsGood r b x) := by
  rcases op_is x.f0 h0 h1 with ⟨s, he, hN⟩ | ⟨s, tk, gv, me, tk', le, gv', fr, is, he, F⟩
  · refine ⟨false, ?_, fun h => by cases h⟩
    refine Ev.bind (f := fun k t => if t.toList = ([] : List UInt8) then some false else mandrelref11_ins.l0 k t 0 p r b l x.f0 x.f1 x.f2 x.f3 x.f4) hN (Ev.congr (f := fun _ => some false) (fun k => ?_) (Ev.now _))
    rw [if_pos he]
  · refine ⟨insB s tk gv me r b x.f1 x.f2 x.f3 x.f4, ?_, fun h => ⟨?_, s, tk, gv, me, tk', le, gv', fr, is, F⟩⟩
    · refine Ev.bind (f := fun k t => if t.toList = ([] : List UInt8) then some false else mandrelref11_ins.l0 k t 0 p r b l x.f0 x.f1 x.f2 x.f3 x.f4) F.name (Ev.congr (f := fun k => mandrelref11_ins.l0 k s ((0 : Nat) : Int) p r b l x.f0 x.f1 x.f2 x.f3 x.f4) (fun k => ?_) (l0_ev s tk gv me p r b l x.f0 x.f1 x.f2 x.f3 x.f4 hsl F.shape F.mem x.f2.length 0 (by omega)))
      rw [if_neg he]
      rfl
    · unfold insB at h
      simp only [Bool.and_eq_true, Bool.not_eq_true'] at h
      obtain ⟨⟨⟨ha, hs⟩, ho⟩, hn⟩ := h
      obtain ⟨hnb, hret⟩ := numbered_is x.f0 x.f1 x.f2 x.f3 x.f4 s tk gv me tk' le gv' fr is F b hn
      have hM : mayB r b x.f0 x.f1 x.f2 x.f4 tk' le gv' fr is me true = true := by
        unfold shapeB at hs
        simp only [Bool.or_eq_false_iff, Bool.and_eq_false_iff, decide_eq_false_iff_not] at hs
        obtain ⟨⟨⟨s1, s2⟩, s3⟩, s4⟩ := hs
        have q1 : mayP1 r x.f2 tk' le is = false := by
          unfold mayP1
          rw [away_any x.f2 r ha, F.isO]
          unfold offB at ho
          simp only [Bool.or_eq_false_iff, Bool.and_eq_false_iff, decide_eq_false_iff_not] at ho
          by_cases ht : 0 ≤ tk
          · obtain ⟨t1, t2⟩ := F.takes ht
            have hl : (x.f2.length : Int) = tk := by
              rcases s1 with s1 | s1
              · exact absurd ht s1
              · omega
            have d1 : decide ((x.f2.length : Int) < le) = false := decide_eq_false (by omega)
            rw [d1, t1, hl]
            simp
          · obtain ⟨t1, t2⟩ := F.many (by omega)
            have d1 : decide ((x.f2.length : Int) < le) = false := by
              refine decide_eq_false ?_
              rcases ho.1 with o | o
              · rw [t2, if_neg o]; omega
              · rw [t2]; split <;> omega
            have d2 : decide (0 ≤ tk') = false := decide_eq_false (by omega)
            rw [d1, d2]
            simp
        have q2 : mayP2 r x.f1 gv' fr = false := by
          unfold mayP2
          have d1 : ((x.f1 != -1) && awayB x.f1 r) = false := by
            by_cases hd : x.f1 = -1
            · rw [hd]; rfl
            · unfold awayB
              simp [hd]
              omega
          rw [d1, F.gives.1]
          by_cases hg : gv = 2
          · rw [hg]; rfl
          · rw [F.gives.2 hg]
            rcases s4 with s4 | s4
            · exact absurd hg s4
            · have hg2 : (gv == 2) = false := by simp [hg]
              rw [hg2]
              have e3 : (x.f1 != -1) = decide (x.f1 ≥ 0) := by
                by_cases hd : x.f1 = -1
                · rw [hd]; rfl
                · have : x.f1 ≥ 0 := by omega
                  simp [hd, this]
              rw [e3]
              simpa using s4
        have q3 : mayP3 x.f4 me true = false := by
          unfold mayP3
          unfold offB at ho
          simp only [Bool.or_eq_false_iff, Bool.and_eq_false_iff, decide_eq_false_iff_not] at ho
          rcases ho.2 with o | o
          · have : x.f4 = 0 := by omega
            rw [this]; rfl
          · have : me = true := by simpa using o
            rw [this]; simp
        unfold mayB
        rw [q1, q2, q3, if_neg (by decide), if_neg (by decide), if_neg (by decide)]
        by_cases h15 : x.f0 = 15
        · rw [if_pos h15, (hret h15).1, decide_eq_true (hret h15).2]
          rfl
        · rw [if_neg h15]
      unfold mayO
      refine Ev.bind (f := fun k (q : Int × Int × Bool × Bool × Bool) => (vcode_memory.f (conv83 x).f0).bind fun m => (vcode_numbered.f (conv83 x).f0 (conv83 x).f1 (conv83 x).f2 (conv83 x).f3 (conv83 x).f4).bind fun nb => some (mayB r b (conv83 x).f0 (conv83 x).f1 (conv83 x).f2 (conv83 x).f4 q.1 q.2.1 q.2.2.1 q.2.2.2.1 q.2.2.2.2 m nb)) F.own (Ev.congr (f := fun _ => some true) (fun k => ?_) (Ev.now _))
      show (vcode_memory.f x.f0).bind _ = _
      rw [F.memO, Option.bind_some]
      show (vcode_numbered.f x.f0 x.f1 x.f2 x.f3 x.f4).bind _ = _
      rw [hnb, Option.bind_some]
      exact congrArg some hM
end Go.Proofs.YthgkeehpoilgaaaGreatDoor.Pure
end

import Derived.Test.YthgkeehpoilgaaaGreatDoorHwP2
section
namespace Go.Proofs.YthgkeehpoilgaaaGreatDoor.Hw
open Go.RowKit Go.Proofs.YthgkeehpoilgaaaGreatDoorW.PrintWords Go.Proofs.YthgkeehpoilgaaaGreatDoorW.PrintLast Go.Proofs.YthgkeehpoilgaaaGreatDoorW.PrintMore
attribute [local go_sem] max2_int min2_int max_two min_two max_three min_three max_four min_four
set_option linter.unusedVariables false
set_option linter.unusedSimpArgs false
def mandrelref11_Size.l0 : Nat → Int → Int → Int → Int → Bool → List (S80) → Option (Int)
 | 0, _, _, _, _, _, _ => none
 | k + 1, x3, x4, x102000, x102001, x102002, x102003 => if x4 < (x102003.length : Int) then (if 0 ≤ x4 then (mandrelref11_Size.l0 k (wrap64 (x3 + (((rd_T80 x102003 x4).f0).length : Int))) (wrap64 (x4 + 1)) x102000 x102001 x102002 x102003) else (none)) else (some x3)
def mandrelref11_Size.f (k : Nat) (a0_0 : Int) (a0_1 : Int) (a0_2 : Bool) (l0_3 : List (S80)) : Option (Int) := mandrelref11_Size.l0 k 0 0 a0_0 a0_1 a0_2 l0_3
set_option maxHeartbeats 8000000 in
set_option maxRecDepth 100000 in
theorem mandrelref11_Size.calls (k : Nat) (a0_0 : Int) (a0_1 : Int) (a0_2 : Bool) (A0_3 : Option Addr) (c0_3 : Nat) (l0_3 : List (S80)) (r : Int) (w : World) (hr0_3 : Kd.C k80 w A0_3 l0_3.length l0_3) (hc0_3 : l0_3.length ≤ c0_3) (hG : GG [] w) (h : mandrelref11_Size.f k a0_0 a0_1 a0_2 l0_3 = some r) :
  Calls Tryz.prog 7 #[.agg #[.int .i64 a0_0, .int .i64 a0_1, .bool a0_2, .slice A0_3 l0_3.length c0_3]] w fun e w' => e = .returned (.int .i64 r) ∧ Below w.heap.size w w' := by
 have hu24 := Tryz.underlying24
 have HR0_3 := Aside0.mk hr0_3
 have HC0_3 := Aside0.mk hc0_3
 clear hr0_3 hc0_3
 have HB := Aside0.mk (Below.refl w.heap.size w)
 have HG := Aside0.mk hG
 clear hG
 have H : (mandrelref11_Size.l0 k 0 0 a0_0 a0_1 a0_2 l0_3) = some r := h
 clear h
 have H' := Aside0.mk H
 clear H
 go_enter Tryz.func7, Tryz.ntmps7
 go_wp2_with (first | ((with_reducible refine gate_dst (N := 1) rfl ?_); refine box_event ?hg (N := 1) ?hd (cs := #[.int .i64 a0_0, .int .i64 a0_1, .bool a0_2, .slice A0_3 l0_3.length c0_3]) (t := 24) ?hr ?_; (case hd => rfl); (case hg => rfl); (case hr => first | (go_simp; done) | (go_simp; rfl)); intro gb101 hg w2 hbox hb; have n0_ := Aside0.mk (below_step Q1 hb); have n1_ := Aside0.mk (hbox); have n2_ := Aside0.mk ((Q155 : w.heap.size ≤ gb101)); have n3_ := Aside0.mk ((Q155 : w.heap.size ≤ gb101)); clear HB; have HB := n0_; have BK101 := n1_; have GW101 := n2_; have GE101 := n3_; clear n0_ n1_ n2_ n3_; clear hb hbox hg))
 go_loopg [3, 4] k (fun kq v3 v4 w' => ∃ (x3_1 : Int) (x4_1 : Int), v3 = .int .i64 x3_1 ∧ v4 = .int .i64 x4_1 ∧ Aside0 (mandrelref11_Size.l0 kq x3_1 x4_1 a0_0 a0_1 a0_2 l0_3 = some r) ∧ Aside0 (kq ≤ k) ∧ Aside0 (w'.heap[gb101]? = some (.cells #[.int .i64 a0_0, .int .i64 a0_1, .bool a0_2, (.slice A0_3 l0_3.length c0_3)] 24 (0, 0))) ∧ Aside0 (Below w.heap.size w w'))
 case atStart => exact ⟨(0), (0), Q3, Q3, H', ⟨Nat.le_refl _⟩, ⟨Q98⟩, ⟨Q83⟩⟩
 case round =>
  clear H'
  obtain ⟨x3_1, x4_1, rfl, rfl, HA, HK1, BK101, HB⟩ := hrel
  cases gk with
  | zero => exact absurd HA.out (by simp [mandrelref11_Size.l0])
  | succ k1 =>
   have H := HA.out
   clear HA
   simp only [mandrelref11_Size.l0] at H
   by_cases c3 : x4_1 < (l0_3.length : Int)
   ·rw [if_pos c3] at H
    have c3b0 : decide (x4_1 < (l0_3.length : Int)) = true := decide_eq_true c3
    clear c3
    by_cases c4 : 0 ≤ x4_1
    ·rw [if_pos c4] at H
     have c4b0 : decide (0 ≤ x4_1) = true := decide_eq_true c4
     clear c4
     have H' := Aside0.mk H
     clear H
     have ⟨hcz5_0, hcz5_1, hcz5_2, hcz5_3, hfz5_0, hfz5_1, hfz5_2, hfz5_3⟩ := blk4 BK101.out
     have p102 : 0 ≤ (x4_1 : Int) := of_decide_eq_true Q4
     have q102 : x4_1 < (l0_3.length : Int) := of_decide_eq_true Q4
     obtain ⟨ad102, A102_0, c102_0, A102_1, c102_1, e102, hx102_0, hx102_1, hx102_2, hl102_0, hi102_0, hl102_1, hi102_1⟩ := at_T80 HR0_3.out x4_1 p102 q102
     cases e102
     replace hx102_0 := (HB.out.cell (World.block_lt_of_cell? w _ hx102_0)).trans hx102_0
     replace hx102_1 := (HB.out.cell (World.block_lt_of_cell? w _ hx102_1)).trans hx102_1
     replace hx102_2 := (HB.out.cell (World.block_lt_of_cell? w _ hx102_2)).trans hx102_2
     have HR102_0 := Aside0.mk hi102_0
     have HC102_0 := Aside0.mk hl102_0
     clear hi102_0 hl102_0
     have HR102_1 := Aside0.mk hi102_1
     have HC102_1 := Aside0.mk hl102_1
     clear hi102_1 hl102_1
     replace p102 := eq_true p102
     replace q102 := eq_true q102
     go_wp2
     go_roundg k1
     case measure => have := HK1.out; omega
     case rel => exact ⟨(wrap64 (x3_1 + (((rd_T80 l0_3 x4_1).f0).length : Int))), (wrap64 (x4_1 + 1)), Q3, Q3, H', ⟨by have := HK1.out; omega⟩, ⟨Q98⟩, ⟨Q83⟩⟩
    rw [if_neg c4] at H
    exact absurd H Q8
   rw [if_neg c3] at H
   have c3b0 : decide (x4_1 < (l0_3.length : Int)) = false := decide_eq_false c3
   clear c3
   obtain rfl := Option.some.inj H
   have ⟨hcz6_0, hcz6_1, hcz6_2, hcz6_3, hfz6_0, hfz6_1, hfz6_2, hfz6_3⟩ := blk4 BK101.out
   go_wp2
   go_ret
   exact ⟨Q6, Q83⟩
mutual
def mandrelref02_Name.j0 : Nat → List ByteArray → List ByteArray → List ByteArray → Int → Bool → Option (ByteArray × Int)
 | 0, _, _, _, _, _ => none
 | k + 1, x4, x5, x6, x7, x13 => if x13 = true then (if 0 ≤ (wrap64 (x7 - 69)) then (if (wrap64 (x7 - 69)) < (x6.length : Int) then (some (rdOf ByteArray.empty x6 (wrap64 (x7 - 69)), 32)) else (none)) else (none)) else (if x7 ≥ 80 then (mandrelref02_Name.j1 k x4 x5 x6 x7 (decide (x7 ≤ 90))) else (mandrelref02_Name.j1 k x4 x5 x6 x7 false))
def mandrelref02_Name.j1 : Nat → List ByteArray → List ByteArray → List ByteArray → Int → Bool → Option (ByteArray × Int)
 | 0, _, _, _, _, _ => none
 | k + 1, x4, x5, x6, x7, x25 => if x25 = true then (if 0 ≤ (wrap64 (x7 - 80)) then (if (wrap64 (x7 - 80)) < (x6.length : Int) then (some (rdOf ByteArray.empty x6 (wrap64 (x7 - 80)), 64)) else (none)) else (none)) else (if x7 ≥ 103 then (mandrelref02_Name.j2 k x4 x5 x7 (decide (x7 ≤ 105))) else (mandrelref02_Name.j2 k x4 x5 x7 false))
def mandrelref02_Name.j2 : Nat → List ByteArray → List ByteArray → Int → Bool → Option (ByteArray × Int)
 | 0, _, _, _, _ => none
 | k + 1, x4, x5, x7, x37 => if x37 = true then (if 0 ≤ (wrap64 (x7 - 103)) then (if (wrap64 (x7 - 103)) < (x4.length : Int) then (some (rdOf ByteArray.empty x4 (wrap64 (x7 - 103)), 32)) else (none)) else (none)) else (if x7 ≥ 106 then (mandrelref02_Name.j3 k x4 x5 x7 (decide (x7 ≤ 120))) else (mandrelref02_Name.j3 k x4 x5 x7 false))
def mandrelref02_Name.j3 : Nat → List ByteArray → List ByteArray → Int → Bool → Option (ByteArray × Int)
 | 0, _, _, _, _ => none
 | k + 1, x4, x5, x7, x49 => if x49 = true then (if 0 ≤ (wrap64 (x7 - 106)) then (if (wrap64 (x7 - 106)) < (x5.length : Int) then (some (rdOf ByteArray.empty x5 (wrap64 (x7 - 106)), 32)) else (none)) else (none)) else (if x7 ≥ 121 then (mandrelref02_Name.j4 k x4 x5 x7 (decide (x7 ≤ 123))) else (mandrelref02_Name.j4 k x4 x5 x7 false))
def mandrelref02_Name.j4 : Nat → List ByteArray → List ByteArray → Int → Bool → Option (ByteArray × Int)
 | 0, _, _, _, _ => none
 | k + 1, x4, x5, x7, x61 => if x61 = true then (if 0 ≤ (wrap64 (x7 - 121)) then (if (wrap64 (x7 - 121)) < (x4.length : Int) then (some (rdOf ByteArray.empty x4 (wrap64 (x7 - 121)), 64)) else (none)) else (none)) else (if x7 ≥ 124 then (mandrelref02_Name.j5 k x5 x7 (decide (x7 ≤ 138))) else (mandrelref02_Name.j5 k x5 x7 false))
def mandrelref02_Name.j5 : Nat → List ByteArray → Int → Bool → Option (ByteArray × Int)
 | 0, _, _, _ => none
 | k + 1, x5, x7, x73 => if x73 = true then (if 0 ≤ (wrap64 (x7 - 124)) then (if (wrap64 (x7 - 124)) < (x5.length : Int) then (some (rdOf ByteArray.empty x5 (wrap64 (x7 - 124)), 64)) else (none)) else (none)) else (if x7 = 167 then (some ((⟨#[119, 114, 97, 112]⟩ : ByteArray), 64)) else (if x7 = 172 then (some ((⟨#[101, 120, 116, 101, 110, 100, 95, 115]⟩ : ByteArray), 32)) else (if x7 = 173 then (some ((⟨#[101, 120, 116, 101, 110, 100, 95, 117]⟩ : ByteArray), 32)) else (some ((⟨#[]⟩ : ByteArray), 0)))))
end
def mandrelref02_Name.f (k : Nat) (a0 : Int) : Option (ByteArray × Int) := (some (([(⟨#[99, 108, 122]⟩ : ByteArray), (⟨#[99, 116, 122]⟩ : ByteArray), (⟨#[112, 111, 112, 99, 110, 116]⟩ : ByteArray)] : List ByteArray) : List ByteArray)).bind fun y103 => ((some (([(⟨#[97, 100, 100]⟩ : ByteArray), (⟨#[115, 117, 98]⟩ : ByteArray), (⟨#[109, 117, 108]⟩ : ByteArray), (⟨#[100, 105, 118, 95, 115]⟩ : ByteArray), (⟨#[100, 105, 118, 95, 117]⟩ : ByteArray), (⟨#[114, 101, 109, 95, 115]⟩ : ByteArray), (⟨#[114, 101, 109, 95, 117]⟩ : ByteArray), (⟨#[97, 110, 100]⟩ : ByteArray), (⟨#[111, 114]⟩ : ByteArray), (⟨#[120, 111, 114]⟩ : ByteArray), (⟨#[115, 104, 108]⟩ : ByteArray), (⟨#[115, 104, 114, 95, 115]⟩ : ByteArray), (⟨#[115, 104, 114, 95, 117]⟩ : ByteArray), (⟨#[114, 111, 116, 108]⟩ : ByteArray), (⟨#[114, 111, 116, 114]⟩ : ByteArray)] : List ByteArray) : List ByteArray)).bind fun y106 => ((some (([(⟨#[101, 113, 122]⟩ : ByteArray), (⟨#[101, 113]⟩ : ByteArray), (⟨#[110, 101]⟩ : ByteArray), (⟨#[108, 116, 95, 115]⟩ : ByteArray), (⟨#[108, 116, 95, 117]⟩ : ByteArray), (⟨#[103, 116, 95, 115]⟩ : ByteArray), (⟨#[103, 116, 95, 117]⟩ : ByteArray), (⟨#[108, 101, 95, 115]⟩ : ByteArray), (⟨#[108, 101, 95, 117]⟩ : ByteArray), (⟨#[103, 101, 95, 115]⟩ : ByteArray), (⟨#[103, 101, 95, 117]⟩ : ByteArray)] : List ByteArray) : List ByteArray)).bind fun y109 => (if (wrap64 (a0)) ≥ 69 then (mandrelref02_Name.j0 k y103 y106 y109 (wrap64 (a0)) (decide ((wrap64 (a0)) ≤ 79))) else (mandrelref02_Name.j0 k y103 y106 y109 (wrap64 (a0)) false))))
set_option maxHeartbeats 8000000 in
set_option maxRecDepth 100000 in
theorem mandrelref02_Name.calls (k : Nat) (a0 : Int) (r1 : ByteArray) (r2 : Int) (w : World) (hG : GG [] w) (h : mandrelref02_Name.f k a0 = some (r1, r2)) :
  Calls Tryz.prog 93 #[.int .u8 a0] w fun e w' => e = .returned (.tuple #[.string r1, .int .i64 r2]) ∧ Below w.heap.size w w' := by
 have HB := Aside0.mk (Below.refl w.heap.size w)
 have HG := Aside0.mk hG
 clear hG
 have H : ((some (([(⟨#[99, 108, 122]⟩ : ByteArray), (⟨#[99, 116, 122]⟩ : ByteArray), (⟨#[112, 111, 112, 99, 110, 116]⟩ : ByteArray)] : List ByteArray) : List ByteArray)).bind fun y103 => ((some (([(⟨#[97, 100, 100]⟩ : ByteArray), (⟨#[115, 117, 98]⟩ : ByteArray), (⟨#[109, 117, 108]⟩ : ByteArray), (⟨#[100, 105, 118, 95, 115]⟩ : ByteArray), (⟨#[100, 105, 118, 95, 117]⟩ : ByteArray), (⟨#[114, 101, 109, 95, 115]⟩ : ByteArray), (⟨#[114, 101, 109, 95, 117]⟩ : ByteArray), (⟨#[97, 110, 100]⟩ : ByteArray), (⟨#[111, 114]⟩ : ByteArray), (⟨#[120, 111, 114]⟩ : ByteArray), (⟨#[115, 104, 108]⟩ : ByteArray), (⟨#[115, 104, 114, 95, 115]⟩ : ByteArray), (⟨#[115, 104, 114, 95, 117]⟩ : ByteArray), (⟨#[114, 111, 116, 108]⟩ : ByteArray), (⟨#[114, 111, 116, 114]⟩ : ByteArray)] : List ByteArray) : List ByteArray)).bind fun y106 => ((some (([(⟨#[101, 113, 122]⟩ : ByteArray), (⟨#[101, 113]⟩ : ByteArray), (⟨#[110, 101]⟩ : ByteArray), (⟨#[108, 116, 95, 115]⟩ : ByteArray), (⟨#[108, 116, 95, 117]⟩ : ByteArray), (⟨#[103, 116, 95, 115]⟩ : ByteArray), (⟨#[103, 116, 95, 117]⟩ : ByteArray), (⟨#[108, 101, 95, 115]⟩ : ByteArray), (⟨#[108, 101, 95, 117]⟩ : ByteArray), (⟨#[103, 101, 95, 115]⟩ : ByteArray), (⟨#[103, 101, 95, 117]⟩ : ByteArray)] : List ByteArray) : List ByteArray)).bind fun y109 => (if (wrap64 (a0)) ≥ 69 then (mandrelref02_Name.j0 k y103 y106 y109 (wrap64 (a0)) (decide ((wrap64 (a0)) ≤ 79))) else (mandrelref02_Name.j0 k y103 y106 y109 (wrap64 (a0)) false))))) = some (r1, r2) := h
 clear h
 obtain ⟨y103, hy103⟩ : ∃ y_ : List ByteArray, y_ = (([(⟨#[99, 108, 122]⟩ : ByteArray), (⟨#[99, 116, 122]⟩ : ByteArray), (⟨#[112, 111, 112, 99, 110, 116]⟩ : ByteArray)] : List ByteArray)) := ⟨_, rfl⟩
 replace H : ((some (([(⟨#[97, 100, 100]⟩ : ByteArray), (⟨#[115, 117, 98]⟩ : ByteArray), (⟨#[109, 117, 108]⟩ : ByteArray), (⟨#[100, 105, 118, 95, 115]⟩ : ByteArray), (⟨#[100, 105, 118, 95, 117]⟩ : ByteArray), (⟨#[114, 101, 109, 95, 115]⟩ : ByteArray), (⟨#[114, 101, 109, 95, 117]⟩ : ByteArray), (⟨#[97, 110, 100]⟩ : ByteArray), (⟨#[111, 114]⟩ : ByteArray), (⟨#[120, 111, 114]⟩ : ByteArray), (⟨#[115, 104, 108]⟩ : ByteArray), (⟨#[115, 104, 114, 95, 115]⟩ : ByteArray), (⟨#[115, 104, 114, 95, 117]⟩ : ByteArray), (⟨#[114, 111, 116, 108]⟩ : ByteArray), (⟨#[114, 111, 116, 114]⟩ : ByteArray)] : List ByteArray) : List ByteArray)).bind fun y106 => ((some (([(⟨#[101, 113, 122]⟩ : ByteArray), (⟨#[101, 113]⟩ : ByteArray), (⟨#[110, 101]⟩ : ByteArray), (⟨#[108, 116, 95, 115]⟩ : ByteArray), (⟨#[108, 116, 95, 117]⟩ : ByteArray), (⟨#[103, 116, 95, 115]⟩ : ByteArray), (⟨#[103, 116, 95, 117]⟩ : ByteArray), (⟨#[108, 101, 95, 115]⟩ : ByteArray), (⟨#[108, 101, 95, 117]⟩ : ByteArray), (⟨#[103, 101, 95, 115]⟩ : ByteArray), (⟨#[103, 101, 95, 117]⟩ : ByteArray)] : List ByteArray) : List ByteArray)).bind fun y109 => (if (wrap64 (a0)) ≥ 69 then (mandrelref02_Name.j0 k y103 y106 y109 (wrap64 (a0)) (decide ((wrap64 (a0)) ≤ 79))) else (mandrelref02_Name.j0 k y103 y106 y109 (wrap64 (a0)) false)))) = some (r1, r2) := by first | (rw [hy103]; with_reducible exact H) | (have H2_ := (Option.bind_some _ _).symm.trans H; rw [hy103]; with_reducible exact H2_) | (have H2_ := (Option.bind_some _ _).symm.trans H; with_reducible exact H2_) | with_reducible exact H | (rw [hy103]; exact H) | exact H
 have Ny103 := Aside0.mk hy103
 clear hy103
 obtain ⟨y106, hy106⟩ : ∃ y_ : List ByteArray, y_ = (([(⟨#[97, 100, 100]⟩ : ByteArray), (⟨#[115, 117, 98]⟩ : ByteArray), (⟨#[109, 117, 108]⟩ : ByteArray), (⟨#[100, 105, 118, 95, 115]⟩ : ByteArray), (⟨#[100, 105, 118, 95, 117]⟩ : ByteArray), (⟨#[114, 101, 109, 95, 115]⟩ : ByteArray), (⟨#[114, 101, 109, 95, 117]⟩ : ByteArray), (⟨#[97, 110, 100]⟩ : ByteArray), (⟨#[111, 114]⟩ : ByteArray), (⟨#[120, 111, 114]⟩ : ByteArray), (⟨#[115, 104, 108]⟩ : ByteArray), (⟨#[115, 104, 114, 95, 115]⟩ : ByteArray), (⟨#[115, 104, 114, 95, 117]⟩ : ByteArray), (⟨#[114, 111, 116, 108]⟩ : ByteArray), (⟨#[114, 111, 116, 114]⟩ : ByteArray)] : List ByteArray)) := ⟨_, rfl⟩
 replace H : ((some (([(⟨#[101, 113, 122]⟩ : ByteArray), (⟨#[101, 113]⟩ : ByteArray), (⟨#[110, 101]⟩ : ByteArray), (⟨#[108, 116, 95, 115]⟩ : ByteArray), (⟨#[108, 116, 95, 117]⟩ : ByteArray), (⟨#[103, 116, 95, 115]⟩ : ByteArray), (⟨#[103, 116, 95, 117]⟩ : ByteArray), (⟨#[108, 101, 95, 115]⟩ : ByteArray), (⟨#[108, 101, 95, 117]⟩ : ByteArray), (⟨#[103, 101, 95, 115]⟩ : ByteArray), (⟨#[103, 101, 95, 117]⟩ : ByteArray)] : List ByteArray) : List ByteArray)).bind fun y109 => (if (wrap64 (a0)) ≥ 69 then (mandrelref02_Name.j0 k y103 y106 y109 (wrap64 (a0)) (decide ((wrap64 (a0)) ≤ 79))) else (mandrelref02_Name.j0 k y103 y106 y109 (wrap64 (a0)) false))) = some (r1, r2) := by first | (rw [hy106]; with_reducible exact H) | (have H2_ := (Option.bind_some _ _).symm.trans H; rw [hy106]; with_reducible exact H2_) | (have H2_ := (Option.bind_some _ _).symm.trans H; with_reducible exact H2_) | with_reducible exact H | (rw [hy106]; exact H) | exact H
 have Ny106 := Aside0.mk hy106
 clear hy106
 obtain ⟨y109, hy109⟩ : ∃ y_ : List ByteArray, y_ = (([(⟨#[101, 113, 122]⟩ : ByteArray), (⟨#[101, 113]⟩ : ByteArray), (⟨#[110, 101]⟩ : ByteArray), (⟨#[108, 116, 95, 115]⟩ : ByteArray), (⟨#[108, 116, 95, 117]⟩ : ByteArray), (⟨#[103, 116, 95, 115]⟩ : ByteArray), (⟨#[103, 116, 95, 117]⟩ : ByteArray), (⟨#[108, 101, 95, 115]⟩ : ByteArray), (⟨#[108, 101, 95, 117]⟩ : ByteArray), (⟨#[103, 101, 95, 115]⟩ : ByteArray), (⟨#[103, 101, 95, 117]⟩ : ByteArray)] : List ByteArray)) := ⟨_, rfl⟩
 replace H : (if (wrap64 (a0)) ≥ 69 then (mandrelref02_Name.j0 k y103 y106 y109 (wrap64 (a0)) (decide ((wrap64 (a0)) ≤ 79))) else (mandrelref02_Name.j0 k y103 y106 y109 (wrap64 (a0)) false)) = some (r1, r2) := by first | (rw [hy109]; with_reducible exact H) | (have H2_ := (Option.bind_some _ _).symm.trans H; rw [hy109]; with_reducible exact H2_) | (have H2_ := (Option.bind_some _ _).symm.trans H; with_reducible exact H2_) | with_reducible exact H | (rw [hy109]; exact H) | exact H
 have Ny109 := Aside0.mk hy109
 clear hy109
 have HC2 := Aside0.mk H
 clear H
 go_enter Tryz.func93, Tryz.ntmps93
 go_upto_region 5 with (first | ((with_reducible refine gate_dst (N := 8) rfl ?_); refine Kd.R_lit Kd.string _ 9 ?hg (N := 8) ?hd (xs := ([(⟨#[99, 108, 122]⟩ : ByteArray), (⟨#[99, 116, 122]⟩ : ByteArray), (⟨#[112, 111, 112, 99, 110, 116]⟩ : ByteArray)] : List ByteArray)) (inner := [.string (⟨#[99, 108, 122]⟩ : ByteArray), .string (⟨#[99, 116, 122]⟩ : ByteArray), .string (⟨#[112, 111, 112, 99, 110, 116]⟩ : ByteArray)]) (ok := fun _ => True) (okp := fun _ => True) ?hr ?hp (fun _ hk => hk) trivial (Below.refl _ _) (Nat.le_refl _) Q8 ?_; (case hd => rfl); (case hg => rfl); (case hr => first | (go_simp; done) | (go_simp; rfl)); (case hp => exact (Reps.one (show Kd.M Kd.string _ _ _ (⟨#[99, 108, 122]⟩ : ByteArray) [.string (⟨#[99, 108, 122]⟩ : ByteArray)] from rfl) (Reps.one (show Kd.M Kd.string _ _ _ (⟨#[99, 116, 122]⟩ : ByteArray) [.string (⟨#[99, 116, 122]⟩ : ByteArray)] from rfl) (Reps.one (show Kd.M Kd.string _ _ _ (⟨#[112, 111, 112, 99, 110, 116]⟩ : ByteArray) [.string (⟨#[112, 111, 112, 99, 110, 116]⟩ : ByteArray)] from rfl) (Reps.none _ _))))); intro v104 w3 ho4 hb hg_ hnew_; clear hg_ hnew_; (first | rw [← Ny103.out] at ho4 | (simp only [Int.reduceToNat] at ho4; rw [← Ny103.out] at ho4)); have n0_ := Aside0.mk (Kd.R_lower ho4 (below_size Q1)); have n1_ := Aside0.mk (below_step Q1 hb); clear HB; have HO105 := n0_; have HB := n1_; clear n0_ n1_; clear hb ho4) | ((with_reducible refine gate_dst (N := 9) rfl ?_); refine Kd.R_lit Kd.string _ 9 ?hg (N := 9) ?hd (xs := ([(⟨#[97, 100, 100]⟩ : ByteArray), (⟨#[115, 117, 98]⟩ : ByteArray), (⟨#[109, 117, 108]⟩ : ByteArray), (⟨#[100, 105, 118, 95, 115]⟩ : ByteArray), (⟨#[100, 105, 118, 95, 117]⟩ : ByteArray), (⟨#[114, 101, 109, 95, 115]⟩ : ByteArray), (⟨#[114, 101, 109, 95, 117]⟩ : ByteArray), (⟨#[97, 110, 100]⟩ : ByteArray), (⟨#[111, 114]⟩ : ByteArray), (⟨#[120, 111, 114]⟩ : ByteArray), (⟨#[115, 104, 108]⟩ : ByteArray), (⟨#[115, 104, 114, 95, 115]⟩ : ByteArray), (⟨#[115, 104, 114, 95, 117]⟩ : ByteArray), (⟨#[114, 111, 116, 108]⟩ : ByteArray), (⟨#[114, 111, 116, 114]⟩ : ByteArray)] : List ByteArray)) (inner := [.string (⟨#[97, 100, 100]⟩ : ByteArray), .string (⟨#[115, 117, 98]⟩ : ByteArray), .string (⟨#[109, 117, 108]⟩ : ByteArray), .string (⟨#[100, 105, 118, 95, 115]⟩ : ByteArray), .string (⟨#[100, 105, 118, 95, 117]⟩ : ByteArray), .string (⟨#[114, 101, 109, 95, 115]⟩ : ByteArray), .string (⟨#[114, 101, 109, 95, 117]⟩ : ByteArray), .string (⟨#[97, 110, 100]⟩ : ByteArray), .string (⟨#[111, 114]⟩ : ByteArray), .string (⟨#[120, 111, 114]⟩ : ByteArray), .string (⟨#[115, 104, 108]⟩ : ByteArray), .string (⟨#[115, 104, 114, 95, 115]⟩ : ByteArray), .string (⟨#[115, 104, 114, 95, 117]⟩ : ByteArray), .string (⟨#[114, 111, 116, 108]⟩ : ByteArray), .string (⟨#[114, 111, 116, 114]⟩ : ByteArray)]) (ok := fun _ => True) (okp := fun _ => True) ?hr ?hp (fun _ hk => hk) trivial (Below.refl _ _) (Nat.le_refl _) Q8 ?_; (case hd => rfl); (case hg => rfl); (case hr => first | (go_simp; done) | (go_simp; rfl)); (case hp => exact (Reps.one (show Kd.M Kd.string _ _ _ (⟨#[97, 100, 100]⟩ : ByteArray) [.string (⟨#[97, 100, 100]⟩ : ByteArray)] from rfl) (Reps.one (show Kd.M Kd.string _ _ _ (⟨#[115, 117, 98]⟩ : ByteArray) [.string (⟨#[115, 117, 98]⟩ : ByteArray)] from rfl) (Reps.one (show Kd.M Kd.string _ _ _ (⟨#[109, 117, 108]⟩ : ByteArray) [.string (⟨#[109, 117, 108]⟩ : ByteArray)] from rfl) (Reps.one (show Kd.M Kd.string _ _ _ (⟨#[100, 105, 118, 95, 115]⟩ : ByteArray) [.string (⟨#[100, 105, 118, 95, 115]⟩ : ByteArray)] from rfl) (Reps.one (show Kd.M Kd.string _ _ _ (⟨#[100, 105, 118, 95, 117]⟩ : ByteArray) [.string (⟨#[100, 105, 118, 95, 117]⟩ : ByteArray)] from rfl) (Reps.one (show Kd.M Kd.string _ _ _ (⟨#[114, 101, 109, 95, 115]⟩ : ByteArray) [.string (⟨#[114, 101, 109, 95, 115]⟩ : ByteArray)] from rfl) (Reps.one (show Kd.M Kd.string _ _ _ (⟨#[114, 101, 109, 95, 117]⟩ : ByteArray) [.string (⟨#[114, 101, 109, 95, 117]⟩ : ByteArray)] from rfl) (Reps.one (show Kd.M Kd.string _ _ _ (⟨#[97, 110, 100]⟩ : ByteArray) [.string (⟨#[97, 110, 100]⟩ : ByteArray)] from rfl) (Reps.one (show Kd.M Kd.string _ _ _ (⟨#[111, 114]⟩ : ByteArray) [.string (⟨#[111, 114]⟩ : ByteArray)] from rfl) (Reps.one (show Kd.M Kd.string _ _ _ (⟨#[120, 111, 114]⟩ : ByteArray) [.string (⟨#[120, 111, 114]⟩ : ByteArray)] from rfl) (Reps.one (show Kd.M Kd.string _ _ _ (⟨#[115, 104, 108]⟩ : ByteArray) [.string (⟨#[115, 104, 108]⟩ : ByteArray)] from rfl) (Reps.one (show Kd.M Kd.string _ _ _ (⟨#[115, 104, 114, 95, 115]⟩ : ByteArray) [.string (⟨#[115, 104, 114, 95, 115]⟩ : ByteArray)] from rfl) (Reps.one (show Kd.M Kd.string _ _ _ (⟨#[115, 104, 114, 95, 117]⟩ : ByteArray) [.string (⟨#[115, 104, 114, 95, 117]⟩ : ByteArray)] from rfl) (Reps.one (show Kd.M Kd.string _ _ _ (⟨#[114, 111, 116, 108]⟩ : ByteArray) [.string (⟨#[114, 111, 116, 108]⟩ : ByteArray)] from rfl) (Reps.one (show Kd.M Kd.string _ _ _ (⟨#[114, 111, 116, 114]⟩ : ByteArray) [.string (⟨#[114, 111, 116, 114]⟩ : ByteArray)] from rfl) (Reps.none _ _))))))))))))))))); intro v107 w5 ho6 hb hg_ hnew_; clear hg_ hnew_; (first | rw [← Ny106.out] at ho6 | (simp only [Int.reduceToNat] at ho6; rw [← Ny106.out] at ho6)); have n0_ := Aside0.mk (Kd.R_elder' Q73 (Kd.R_base ho6) hb); have n1_ := Aside0.mk (Kd.R_lower (Kd.R_new' ho6 (Kd.R_lt Q73)) (below_size Q1)); have n2_ := Aside0.mk (below_step Q1 hb); clear HO105; clear HB; have HO105 := n0_; have HO108 := n1_; have HB := n2_; clear n0_ n1_ n2_; clear hb ho6) | ((with_reducible refine gate_dst (N := 10) rfl ?_); refine Kd.R_lit Kd.string _ 9 ?hg (N := 10) ?hd (xs := ([(⟨#[101, 113, 122]⟩ : ByteArray), (⟨#[101, 113]⟩ : ByteArray), (⟨#[110, 101]⟩ : ByteArray), (⟨#[108, 116, 95, 115]⟩ : ByteArray), (⟨#[108, 116, 95, 117]⟩ : ByteArray), (⟨#[103, 116, 95, 115]⟩ : ByteArray), (⟨#[103, 116, 95, 117]⟩ : ByteArray), (⟨#[108, 101, 95, 115]⟩ : ByteArray), (⟨#[108, 101, 95, 117]⟩ : ByteArray), (⟨#[103, 101, 95, 115]⟩ : ByteArray), (⟨#[103, 101, 95, 117]⟩ : ByteArray)] : List ByteArray)) (inner := [.string (⟨#[101, 113, 122]⟩ : ByteArray), .string (⟨#[101, 113]⟩ : ByteArray), .string (⟨#[110, 101]⟩ : ByteArray), .string (⟨#[108, 116, 95, 115]⟩ : ByteArray), .string (⟨#[108, 116, 95, 117]⟩ : ByteArray), .string (⟨#[103, 116, 95, 115]⟩ : ByteArray), .string (⟨#[103, 116, 95, 117]⟩ : ByteArray), .string (⟨#[108, 101, 95, 115]⟩ : ByteArray), .string (⟨#[108, 101, 95, 117]⟩ : ByteArray), .string (⟨#[103, 101, 95, 115]⟩ : ByteArray), .string (⟨#[103, 101, 95, 117]⟩ : ByteArray)]) (ok := fun _ => True) (okp := fun _ => True) ?hr ?hp (fun _ hk => hk) trivial (Below.refl _ _) (Nat.le_refl _) Q8 ?_; (case hd => rfl); (case hg => rfl); (case hr => first | (go_simp; done) | (go_simp; rfl)); (case hp => exact (Reps.one (show Kd.M Kd.string _ _ _ (⟨#[101, 113, 122]⟩ : ByteArray) [.string (⟨#[101, 113, 122]⟩ : ByteArray)] from rfl) (Reps.one (show Kd.M Kd.string _ _ _ (⟨#[101, 113]⟩ : ByteArray) [.string (⟨#[101, 113]⟩ : ByteArray)] from rfl) (Reps.one (show Kd.M Kd.string _ _ _ (⟨#[110, 101]⟩ : ByteArray) [.string (⟨#[110, 101]⟩ : ByteArray)] from rfl) (Reps.one (show Kd.M Kd.string _ _ _ (⟨#[108, 116, 95, 115]⟩ : ByteArray) [.string (⟨#[108, 116, 95, 115]⟩ : ByteArray)] from rfl) (Reps.one (show Kd.M Kd.string _ _ _ (⟨#[108, 116, 95, 117]⟩ : ByteArray) [.string (⟨#[108, 116, 95, 117]⟩ : ByteArray)] from rfl) (Reps.one (show Kd.M Kd.string _ _ _ (⟨#[103, 116, 95, 115]⟩ : ByteArray) [.string (⟨#[103, 116, 95, 115]⟩ : ByteArray)] from rfl) (Reps.one (show Kd.M Kd.string _ _ _ (⟨#[103, 116, 95, 117]⟩ : ByteArray) [.string (⟨#[103, 116, 95, 117]⟩ : ByteArray)] from rfl) (Reps.one (show Kd.M Kd.string _ _ _ (⟨#[108, 101, 95, 115]⟩ : ByteArray) [.string (⟨#[108, 101, 95, 115]⟩ : ByteArray)] from rfl) (Reps.one (show Kd.M Kd.string _ _ _ (⟨#[108, 101, 95, 117]⟩ : ByteArray) [.string (⟨#[108, 101, 95, 117]⟩ : ByteArray)] from rfl) (Reps.one (show Kd.M Kd.string _ _ _ (⟨#[103, 101, 95, 115]⟩ : ByteArray) [.string (⟨#[103, 101, 95, 115]⟩ : ByteArray)] from rfl) (Reps.one (show Kd.M Kd.string _ _ _ (⟨#[103, 101, 95, 117]⟩ : ByteArray) [.string (⟨#[103, 101, 95, 117]⟩ : ByteArray)] from rfl) (Reps.none _ _))))))))))))); intro v110 w7 ho8 hb hg_ hnew_; clear hg_ hnew_; (first | rw [← Ny109.out] at ho8 | (simp only [Int.reduceToNat] at ho8; rw [← Ny109.out] at ho8)); have n0_ := Aside0.mk (Kd.R_elder' Q73 (Kd.R_base ho8) hb); have n1_ := Aside0.mk (Kd.R_elder' Q99 (Kd.R_base ho8) hb); have n2_ := Aside0.mk (Kd.R_lower (Kd.R_new' (Kd.R_new' ho8 (Kd.R_lt Q73)) (Kd.R_lt Q99)) (below_size Q1)); have n3_ := Aside0.mk (below_step Q1 hb); clear HO105; clear HO108; clear HB; have HO105 := n0_; have HO108 := n1_; have HO111 := n2_; have HB := n3_; clear n0_ n1_ n2_ n3_; clear hb ho8))
 (try simp only [Act.put, List.setIfInBounds_toArray, List.set_cons_zero, List.set_cons_succ])
 go_cut [13] (fun v13 wc => ∃ (kq : Nat) (x13_1 : Bool), v13 = .bool x13_1 ∧ Aside0 (mandrelref02_Name.j0 kq y103 y106 y109 (wrap64 (a0)) x13_1 = some (r1, r2)) ∧ Aside0 (kq ≤ k) ∧ Aside0 (Kd.R Kd.string 9 wc w.heap.size (fun k_ => some k_ ≠ (v107 : Value).ownBlock ∧ some k_ ≠ (v110 : Value).ownBlock) v104 y103) ∧ Aside0 (Kd.R Kd.string 9 wc w.heap.size (fun k_ => some k_ ≠ (v104 : Value).ownBlock ∧ some k_ ≠ (v110 : Value).ownBlock) v107 y106) ∧ Aside0 (Kd.R Kd.string 9 wc w.heap.size (fun k_ => some k_ ≠ (v104 : Value).ownBlock ∧ some k_ ≠ (v107 : Value).ownBlock) v110 y109) ∧ Aside0 (Below w.heap.size w wc))
 case first =>
  have H := HC2.out
  clear HC2
  by_cases c9 : (wrap64 (a0)) ≥ 69
  ·rw [if_pos c9] at H
   have c9b0 : decide (69 ≤ (wrap64 (a0))) = true := decide_eq_true c9
   clear c9
   (first | rw [c9b0] | (simp only [i64_w, i32_w]; rw [c9b0]) | skip)
   have H' := Aside0.mk H
   clear H
   go_wp2
   go_meet
   case rel => exact ⟨_, (decide ((wrap64 (a0)) ≤ 79)), Q3, H', ⟨Q15⟩, ⟨Q100⟩, ⟨Q101⟩, ⟨Q102⟩, ⟨Q1⟩⟩
  rw [if_neg c9] at H
  have c9b0 : decide (69 ≤ (wrap64 (a0))) = false := decide_eq_false c9
  clear c9
  (first | rw [c9b0] | (simp only [i64_w, i32_w]; rw [c9b0]) | skip)
  have H' := Aside0.mk H
  clear H
  go_wp2
  go_meet
  case rel => exact ⟨_, (false), Q3, H', ⟨Q15⟩, ⟨Q100⟩, ⟨Q101⟩, ⟨Q102⟩, ⟨Q1⟩⟩
 case rest =>
  clear HC2
  obtain ⟨kq, x13_1, rfl, HA, HJ1, HO_4, HO_5, HO_6, HB⟩ := hcut
  cases kq with
  | zero => exact absurd HA.out (by simp [mandrelref02_Name.j0])
  | succ kj1 =>
   have H := HA.out
   clear HA
   simp only [mandrelref02_Name.j0] at H
   by_cases c10 : x13_1 = true
   ·subst c10
    have H1 : (if 0 ≤ (wrap64 ((wrap64 (a0)) - 69)) then (if (wrap64 ((wrap64 (a0)) - 69)) < (y109.length : Int) then (some (rdOf ByteArray.empty y109 (wrap64 ((wrap64 (a0)) - 69)), 32)) else (none)) else (none)) = some (r1, r2) := Q14
    clear H
    have H := H1
    clear H1
    obtain ⟨ji11, hji11⟩ : ∃ j_ : Int, (wrap64 ((wrap64 (a0)) - 69)) = j_ := ⟨_, rfl⟩
    replace H : (if 0 ≤ (ji11) then (if (ji11) < (y109.length : Int) then (some (rdOf ByteArray.empty y109 (ji11), 32)) else (none)) else (none)) = some (r1, r2) := by first | (rw [hji11] at H; exact H) | (simp only [hji11] at H ⊢; exact H)
    have hji11w : (IntKind.i64.wrap ((wrap64 (a0)) - 69)) = ji11 := (i64_w _).trans hji11
    by_cases c12 : 0 ≤ (ji11)
    ·rw [if_pos c12] at H
     have c12b0 : decide (0 ≤ (ji11)) = true := decide_eq_true c12
     clear c12
     by_cases c13 : (ji11) < (y109.length : Int)
     ·rw [if_pos c13] at H
      have c13b0 : decide ((ji11) < (y109.length : Int)) = true := decide_eq_true c13
      clear c13
      simp only [Option.some.injEq, Prod.mk.injEq] at H
      obtain ⟨rfl, rfl⟩ := H
      obtain ⟨Ao14, co14, eo14⟩ := Kd.R_slice HO_6.out
      subst eo14
      have p112 : 0 ≤ ((ji11) : Int) := of_decide_eq_true Q4
      have q112 : (ji11) < (y109.length : Int) := of_decide_eq_true Q4
      obtain ⟨ad112, e112, hx112_0⟩ := Kd.at_string (Kd.R_reads' HO_6.out).2.2 (ji11) p112 q112
      cases e112
      replace p112 := eq_true p112
      replace q112 := eq_true q112
      go_wp2
      go_ret2
      exact ⟨by first | rfl | (simp [errW_none, errW_some] <;> rfl) | (simp only [← hji11]; first | rfl | (simp [errW_none, errW_some] <;> rfl)) | (simp [*, errW_none, errW_some] <;> rfl) | (simp [hy_ne]; done), Q1⟩
     rw [if_neg c13] at H
     exact absurd H Q8
    rw [if_neg c12] at H
    exact absurd H Q8
   replace c10 := Bool.eq_false_iff.mpr c10
   subst c10
   have H1 : (if (wrap64 (a0)) ≥ 80 then (mandrelref02_Name.j1 kj1 y103 y106 y109 (wrap64 (a0)) (decide ((wrap64 (a0)) ≤ 90))) else (mandrelref02_Name.j1 kj1 y103 y106 y109 (wrap64 (a0)) false)) = some (r1, r2) := by rw [if_neg (show ¬ (false = true) by decide)] at H; exact H
   clear H
   have H := H1
   clear H1
   have HC15 := Aside0.mk H
   clear H
   go_upto_region 7 with (fail)
   go_cut [25] (fun v25 wc => ∃ (kq : Nat) (x25_14 : Bool), v25 = .bool x25_14 ∧ Aside0 (mandrelref02_Name.j1 kq y103 y106 y109 (wrap64 (a0)) x25_14 = some (r1, r2)) ∧ Aside0 (kq ≤ kj1) ∧ Aside0 (Kd.R Kd.string 9 wc w.heap.size (fun k_ => some k_ ≠ (v107 : Value).ownBlock ∧ some k_ ≠ (v110 : Value).ownBlock) v104 y103) ∧ Aside0 (Kd.R Kd.string 9 wc w.heap.size (fun k_ => some k_ ≠ (v104 : Value).ownBlock ∧ some k_ ≠ (v110 : Value).ownBlock) v107 y106) ∧ Aside0 (Kd.R Kd.string 9 wc w.heap.size (fun k_ => some k_ ≠ (v104 : Value).ownBlock ∧ some k_ ≠ (v107 : Value).ownBlock) v110 y109) ∧ Aside0 (Below w.heap.size w wc))
   case first =>
    have H := HC15.out
    clear HC15
    by_cases c16 : (wrap64 (a0)) ≥ 80
    ·rw [if_pos c16] at H
     have c16b0 : decide (80 ≤ (wrap64 (a0))) = true := decide_eq_true c16
     clear c16
     (first | rw [c16b0] | (simp only [i64_w, i32_w]; rw [c16b0]) | skip)
     have H' := Aside0.mk H
     clear H
     go_wp2
     go_meet
     case rel => exact ⟨_, (decide ((wrap64 (a0)) ≤ 90)), Q3, H', ⟨Q74⟩, ⟨Q59⟩, ⟨Q28⟩, ⟨Q103⟩, ⟨Q1⟩⟩
    rw [if_neg c16] at H
    have c16b0 : decide (80 ≤ (wrap64 (a0))) = false := decide_eq_false c16
    clear c16
    (first | rw [c16b0] | (simp only [i64_w, i32_w]; rw [c16b0]) | skip)
    have H' := Aside0.mk H
    clear H
    go_wp2
    go_meet
    case rel => exact ⟨_, (false), Q3, H', ⟨Q74⟩, ⟨Q59⟩, ⟨Q28⟩, ⟨Q103⟩, ⟨Q1⟩⟩
   case rest =>
    clear HC15
    try clear q1
    try clear hx1
    try clear c10
    try clear q11
    try clear hx11
    try clear hx112_0
    try clear q112
    obtain ⟨kq, x25_14, rfl, HA, HJ14, HO_4, HO_5, HO_6, HB⟩ := hcut
    cases kq with
    | zero => exact absurd HA.out (by simp [mandrelref02_Name.j1])
    | succ kj14 =>
     have H := HA.out
     clear HA
     simp only [mandrelref02_Name.j1] at H
     by_cases c17 : x25_14 = true
     ·subst c17
      have H1 : (if 0 ≤ (wrap64 ((wrap64 (a0)) - 80)) then (if (wrap64 ((wrap64 (a0)) - 80)) < (y109.length : Int) then (some (rdOf ByteArray.empty y109 (wrap64 ((wrap64 (a0)) - 80)), 64)) else (none)) else (none)) = some (r1, r2) := Q14
      clear H
      have H := H1
      clear H1
      obtain ⟨ji18, hji18⟩ : ∃ j_ : Int, (wrap64 ((wrap64 (a0)) - 80)) = j_ := ⟨_, rfl⟩
      replace H : (if 0 ≤ (ji18) then (if (ji18) < (y109.length : Int) then (some (rdOf ByteArray.empty y109 (ji18), 64)) else (none)) else (none)) = some (r1, r2) := by first | (rw [hji18] at H; exact H) | (simp only [hji18] at H ⊢; exact H)
      have hji18w : (IntKind.i64.wrap ((wrap64 (a0)) - 80)) = ji18 := (i64_w _).trans hji18
      by_cases c19 : 0 ≤ (ji18)
      ·rw [if_pos c19] at H
       have c19b0 : decide (0 ≤ (ji18)) = true := decide_eq_true c19
       clear c19
       by_cases c20 : (ji18) < (y109.length : Int)
       ·rw [if_pos c20] at H
        have c20b0 : decide ((ji18) < (y109.length : Int)) = true := decide_eq_true c20
        clear c20
        simp only [Option.some.injEq, Prod.mk.injEq] at H
        obtain ⟨rfl, rfl⟩ := H
        obtain ⟨Ao21, co21, eo21⟩ := Kd.R_slice HO_6.out
        subst eo21
        have p113 : 0 ≤ ((ji18) : Int) := of_decide_eq_true Q4
        have q113 : (ji18) < (y109.length : Int) := of_decide_eq_true Q4
        obtain ⟨ad113, e113, hx113_0⟩ := Kd.at_string (Kd.R_reads' HO_6.out).2.2 (ji18) p113 q113
        cases e113
        replace p113 := eq_true p113
        replace q113 := eq_true q113
        go_wp2
        go_ret2
        exact ⟨by first | rfl | (simp [errW_none, errW_some] <;> rfl) | (simp only [← hji18]; first | rfl | (simp [errW_none, errW_some] <;> rfl)) | (simp [*, errW_none, errW_some] <;> rfl) | (simp [hy_ne]; done), Q1⟩
       rw [if_neg c20] at H
       exact absurd H Q8
      rw [if_neg c19] at H
      exact absurd H Q8
     replace c17 := Bool.eq_false_iff.mpr c17
     subst c17
     have H1 : (if (wrap64 (a0)) ≥ 103 then (mandrelref02_Name.j2 kj14 y103 y106 (wrap64 (a0)) (decide ((wrap64 (a0)) ≤ 105))) else (mandrelref02_Name.j2 kj14 y103 y106 (wrap64 (a0)) false)) = some (r1, r2) := by rw [if_neg (show ¬ (false = true) by decide)] at H; exact H
     clear H
     have H := H1
     clear H1
     have HC22 := Aside0.mk H
     clear H
     go_upto_region 9 with (fail)
     go_cut [37] (fun v37 wc => ∃ (kq : Nat) (x37_21 : Bool), v37 = .bool x37_21 ∧ Aside0 (mandrelref02_Name.j2 kq y103 y106 (wrap64 (a0)) x37_21 = some (r1, r2)) ∧ Aside0 (kq ≤ kj14) ∧ Aside0 (Kd.R Kd.string 9 wc w.heap.size (fun k_ => some k_ ≠ (v107 : Value).ownBlock) v104 y103) ∧ Aside0 (Kd.R Kd.string 9 wc w.heap.size (fun k_ => some k_ ≠ (v104 : Value).ownBlock) v107 y106) ∧ Aside0 (Below w.heap.size w wc))
     case first =>
      have H := HC22.out
      clear HC22
      by_cases c23 : (wrap64 (a0)) ≥ 103
      ·rw [if_pos c23] at H
       have c23b0 : decide (103 ≤ (wrap64 (a0))) = true := decide_eq_true c23
       clear c23
       (first | rw [c23b0] | (simp only [i64_w, i32_w]; rw [c23b0]) | skip)
       have H' := Aside0.mk H
       clear H
       go_wp2
       go_meet
       case rel => exact ⟨_, (decide ((wrap64 (a0)) ≤ 105)), Q3, H', ⟨by have := HJ1.out; have := HJ14.out; first | omega | exact Nat.le_refl _⟩, ⟨Q104⟩, ⟨Q105⟩, ⟨Q1⟩⟩
      rw [if_neg c23] at H
      have c23b0 : decide (103 ≤ (wrap64 (a0))) = false := decide_eq_false c23
      clear c23
      (first | rw [c23b0] | (simp only [i64_w, i32_w]; rw [c23b0]) | skip)
      have H' := Aside0.mk H
      clear H
      go_wp2
      go_meet
      case rel => exact ⟨_, (false), Q3, H', ⟨by have := HJ1.out; have := HJ14.out; first | omega | exact Nat.le_refl _⟩, ⟨Q104⟩, ⟨Q105⟩, ⟨Q1⟩⟩
     case rest =>
      clear HC22
      try clear q1
      try clear hx1
      try clear c10
      try clear q11
      try clear hx11
      try clear c17
      try clear hx112_0
      try clear hx113_0
      try clear q1
      try clear q11
      try clear q112
      try clear q113
      obtain ⟨kq, x37_21, rfl, HA, HJ21, HO_4, HO_5, HB⟩ := hcut
      cases kq with
      | zero => exact absurd HA.out (by simp [mandrelref02_Name.j2])
      | succ kj21 =>
       have H := HA.out
       clear HA
       simp only [mandrelref02_Name.j2] at H
       by_cases c24 : x37_21 = true
       ·subst c24
        have H1 : (if 0 ≤ (wrap64 ((wrap64 (a0)) - 103)) then (if (wrap64 ((wrap64 (a0)) - 103)) < (y103.length : Int) then (some (rdOf ByteArray.empty y103 (wrap64 ((wrap64 (a0)) - 103)), 32)) else (none)) else (none)) = some (r1, r2) := Q14
        clear H
        have H := H1
        clear H1
        obtain ⟨ji25, hji25⟩ : ∃ j_ : Int, (wrap64 ((wrap64 (a0)) - 103)) = j_ := ⟨_, rfl⟩
        replace H : (if 0 ≤ (ji25) then (if (ji25) < (y103.length : Int) then (some (rdOf ByteArray.empty y103 (ji25), 32)) else (none)) else (none)) = some (r1, r2) := by first | (rw [hji25] at H; exact H) | (simp only [hji25] at H ⊢; exact H)
        have hji25w : (IntKind.i64.wrap ((wrap64 (a0)) - 103)) = ji25 := (i64_w _).trans hji25
        by_cases c26 : 0 ≤ (ji25)
        ·rw [if_pos c26] at H
         have c26b0 : decide (0 ≤ (ji25)) = true := decide_eq_true c26
         clear c26
         by_cases c27 : (ji25) < (y103.length : Int)
         ·rw [if_pos c27] at H
          have c27b0 : decide ((ji25) < (y103.length : Int)) = true := decide_eq_true c27
          clear c27
          simp only [Option.some.injEq, Prod.mk.injEq] at H
          obtain ⟨rfl, rfl⟩ := H
          obtain ⟨Ao28, co28, eo28⟩ := Kd.R_slice HO_4.out
          subst eo28
          have p114 : 0 ≤ ((ji25) : Int) := of_decide_eq_true Q4
          have q114 : (ji25) < (y103.length : Int) := of_decide_eq_true Q4
          obtain ⟨ad114, e114, hx114_0⟩ := Kd.at_string (Kd.R_reads' HO_4.out).2.2 (ji25) p114 q114
          cases e114
          replace p114 := eq_true p114
          replace q114 := eq_true q114
          go_wp2
          go_ret2
          exact ⟨by first | rfl | (simp [errW_none, errW_some] <;> rfl) | (simp only [← hji25]; first | rfl | (simp [errW_none, errW_some] <;> rfl)) | (simp [*, errW_none, errW_some] <;> rfl) | (simp [hy_ne]; done), Q1⟩
         rw [if_neg c27] at H
         exact absurd H Q8
        rw [if_neg c26] at H
        exact absurd H Q8
       replace c24 := Bool.eq_false_iff.mpr c24
       subst c24
       have H1 : (if (wrap64 (a0)) ≥ 106 then (mandrelref02_Name.j3 kj21 y103 y106 (wrap64 (a0)) (decide ((wrap64 (a0)) ≤ 120))) else (mandrelref02_Name.j3 kj21 y103 y106 (wrap64 (a0)) false)) = some (r1, r2) := by rw [if_neg (show ¬ (false = true) by decide)] at H; exact H
       clear H
       have H := H1
       clear H1
       have HC29 := Aside0.mk H
       clear H
       go_upto_region 11 with (fail)
       go_cut [49] (fun v49 wc => ∃ (kq : Nat) (x49_28 : Bool), v49 = .bool x49_28 ∧ Aside0 (mandrelref02_Name.j3 kq y103 y106 (wrap64 (a0)) x49_28 = some (r1, r2)) ∧ Aside0 (kq ≤ kj21) ∧ Aside0 (Kd.R Kd.string 9 wc w.heap.size (fun k_ => some k_ ≠ (v107 : Value).ownBlock) v104 y103) ∧ Aside0 (Kd.R Kd.string 9 wc w.heap.size (fun k_ => some k_ ≠ (v104 : Value).ownBlock) v107 y106) ∧ Aside0 (Below w.heap.size w wc))
       case first =>
        have H := HC29.out
        clear HC29
        by_cases c30 : (wrap64 (a0)) ≥ 106
        ·rw [if_pos c30] at H
         have c30b0 : decide (106 ≤ (wrap64 (a0))) = true := decide_eq_true c30
         clear c30
         (first | rw [c30b0] | (simp only [i64_w, i32_w]; rw [c30b0]) | skip)
         have H' := Aside0.mk H
         clear H
         go_wp2
         go_meet
         case rel => exact ⟨_, (decide ((wrap64 (a0)) ≤ 120)), Q3, H', ⟨Q106⟩, ⟨Q59⟩, ⟨Q28⟩, ⟨Q1⟩⟩
        rw [if_neg c30] at H
        have c30b0 : decide (106 ≤ (wrap64 (a0))) = false := decide_eq_false c30
        clear c30
        (first | rw [c30b0] | (simp only [i64_w, i32_w]; rw [c30b0]) | skip)
        have H' := Aside0.mk H
        clear H
        go_wp2
        go_meet
        case rel => exact ⟨_, (false), Q3, H', ⟨Q106⟩, ⟨Q59⟩, ⟨Q28⟩, ⟨Q1⟩⟩
       case rest =>
        clear HC29
        try clear q1
        try clear hx1
        try clear c10
        try clear q11
        try clear hx11
        try clear c17
        try clear c24
        try clear hx112_0
        try clear hx113_0
        try clear hx114_0
        try clear q1
        try clear q11
        try clear q112
        try clear q113
        try clear q114
        obtain ⟨kq, x49_28, rfl, HA, HJ28, HO_4, HO_5, HB⟩ := hcut
        cases kq with
        | zero => exact absurd HA.out (by simp [mandrelref02_Name.j3])
        | succ kj28 =>
         have H := HA.out
         clear HA
         simp only [mandrelref02_Name.j3] at H
         by_cases c31 : x49_28 = true
         ·subst c31
          have H1 : (if 0 ≤ (wrap64 ((wrap64 (a0)) - 106)) then (if (wrap64 ((wrap64 (a0)) - 106)) < (y106.length : Int) then (some (rdOf ByteArray.empty y106 (wrap64 ((wrap64 (a0)) - 106)), 32)) else (none)) else (none)) = some (r1, r2) := Q14
          clear H
          have H := H1
          clear H1
          obtain ⟨ji32, hji32⟩ : ∃ j_ : Int, (wrap64 ((wrap64 (a0)) - 106)) = j_ := ⟨_, rfl⟩
          replace H : (if 0 ≤ (ji32) then (if (ji32) < (y106.length : Int) then (some (rdOf ByteArray.empty y106 (ji32), 32)) else (none)) else (none)) = some (r1, r2) := by first | (rw [hji32] at H; exact H) | (simp only [hji32] at H ⊢; exact H)
          have hji32w : (IntKind.i64.wrap ((wrap64 (a0)) - 106)) = ji32 := (i64_w _).trans hji32
          by_cases c33 : 0 ≤ (ji32)
          ·rw [if_pos c33] at H
           have c33b0 : decide (0 ≤ (ji32)) = true := decide_eq_true c33
           clear c33
           by_cases c34 : (ji32) < (y106.length : Int)
           ·rw [if_pos c34] at H
            have c34b0 : decide ((ji32) < (y106.length : Int)) = true := decide_eq_true c34
            clear c34
            simp only [Option.some.injEq, Prod.mk.injEq] at H
            obtain ⟨rfl, rfl⟩ := H
            obtain ⟨Ao35, co35, eo35⟩ := Kd.R_slice HO_5.out
            subst eo35
            have p115 : 0 ≤ ((ji32) : Int) := of_decide_eq_true Q4
            have q115 : (ji32) < (y106.length : Int) := of_decide_eq_true Q4
            obtain ⟨ad115, e115, hx115_0⟩ := Kd.at_string (Kd.R_reads' HO_5.out).2.2 (ji32) p115 q115
            cases e115
            replace p115 := eq_true p115
            replace q115 := eq_true q115
            go_wp2
            go_ret2
            exact ⟨by first | rfl | (simp [errW_none, errW_some] <;> rfl) | (simp only [← hji32]; first | rfl | (simp [errW_none, errW_some] <;> rfl)) | (simp [*, errW_none, errW_some] <;> rfl) | (simp [hy_ne]; done), Q1⟩
           rw [if_neg c34] at H
           exact absurd H Q8
          rw [if_neg c33] at H
          exact absurd H Q8
         replace c31 := Bool.eq_false_iff.mpr c31
         subst c31
         have H1 : (if (wrap64 (a0)) ≥ 121 then (mandrelref02_Name.j4 kj28 y103 y106 (wrap64 (a0)) (decide ((wrap64 (a0)) ≤ 123))) else (mandrelref02_Name.j4 kj28 y103 y106 (wrap64 (a0)) false)) = some (r1, r2) := by rw [if_neg (show ¬ (false = true) by decide)] at H; exact H
         clear H
         have H := H1
         clear H1
         have HC36 := Aside0.mk H
         clear H
         go_upto_region 13 with (fail)
         go_cut [61] (fun v61 wc => ∃ (kq : Nat) (x61_35 : Bool), v61 = .bool x61_35 ∧ Aside0 (mandrelref02_Name.j4 kq y103 y106 (wrap64 (a0)) x61_35 = some (r1, r2)) ∧ Aside0 (kq ≤ kj28) ∧ Aside0 (Kd.R Kd.string 9 wc w.heap.size (fun k_ => some k_ ≠ (v107 : Value).ownBlock) v104 y103) ∧ Aside0 (Kd.R Kd.string 9 wc w.heap.size (fun k_ => some k_ ≠ (v104 : Value).ownBlock) v107 y106) ∧ Aside0 (Below w.heap.size w wc))
         case first =>
          have H := HC36.out
          clear HC36
          by_cases c37 : (wrap64 (a0)) ≥ 121
          ·rw [if_pos c37] at H
           have c37b0 : decide (121 ≤ (wrap64 (a0))) = true := decide_eq_true c37
           clear c37
           (first | rw [c37b0] | (simp only [i64_w, i32_w]; rw [c37b0]) | skip)
           have H' := Aside0.mk H
           clear H
           go_wp2
           go_meet
           case rel => exact ⟨_, (decide ((wrap64 (a0)) ≤ 123)), Q3, H', ⟨Q107⟩, ⟨Q59⟩, ⟨Q28⟩, ⟨Q1⟩⟩
          rw [if_neg c37] at H
          have c37b0 : decide (121 ≤ (wrap64 (a0))) = false := decide_eq_false c37
          clear c37
          (first | rw [c37b0] | (simp only [i64_w, i32_w]; rw [c37b0]) | skip)
          have H' := Aside0.mk H
          clear H
          go_wp2
          go_meet
          case rel => exact ⟨_, (false), Q3, H', ⟨Q107⟩, ⟨Q59⟩, ⟨Q28⟩, ⟨Q1⟩⟩
         case rest =>
          clear HC36
          try clear q1
          try clear hx1
          try clear c10
          try clear q11
          try clear hx11
          try clear c17
          try clear c24
          try clear c31
          try clear hx112_0
          try clear hx113_0
          try clear hx114_0
          try clear hx115_0
          try clear q1
          try clear q11
          try clear q112
          try clear q113
          try clear q114
          try clear q115
          obtain ⟨kq, x61_35, rfl, HA, HJ35, HO_4, HO_5, HB⟩ := hcut
          cases kq with
          | zero => exact absurd HA.out (by simp [mandrelref02_Name.j4])
          | succ kj35 =>
           have H := HA.out
           clear HA
           simp only [mandrelref02_Name.j4] at H
           by_cases c38 : x61_35 = true
           ·subst c38
            have H1 : (if 0 ≤ (wrap64 ((wrap64 (a0)) - 121)) then (if (wrap64 ((wrap64 (a0)) - 121)) < (y103.length : Int) then (some (rdOf ByteArray.empty y103 (wrap64 ((wrap64 (a0)) - 121)), 64)) else (none)) else (none)) = some (r1, r2) := Q14
            clear H
            have H := H1
            clear H1
            obtain ⟨ji39, hji39⟩ : ∃ j_ : Int, (wrap64 ((wrap64 (a0)) - 121)) = j_ := ⟨_, rfl⟩
            replace H : (if 0 ≤ (ji39) then (if (ji39) < (y103.length : Int) then (some (rdOf ByteArray.empty y103 (ji39), 64)) else (none)) else (none)) = some (r1, r2) := Q108
            have hji39w : (IntKind.i64.wrap ((wrap64 (a0)) - 121)) = ji39 := (i64_w _).trans hji39
            by_cases c40 : 0 ≤ (ji39)
            ·rw [if_pos c40] at H
             have c40b0 : decide (0 ≤ (ji39)) = true := decide_eq_true c40
             clear c40
             by_cases c41 : (ji39) < (y103.length : Int)
             ·rw [if_pos c41] at H
              have c41b0 : decide ((ji39) < (y103.length : Int)) = true := decide_eq_true c41
              clear c41
              simp only [Option.some.injEq, Prod.mk.injEq] at H
              obtain ⟨rfl, rfl⟩ := H
              obtain ⟨Ao42, co42, eo42⟩ := Kd.R_slice HO_4.out
              subst eo42
              have p116 : 0 ≤ ((ji39) : Int) := of_decide_eq_true Q4
              have q116 : (ji39) < (y103.length : Int) := of_decide_eq_true Q4
              obtain ⟨ad116, e116, hx116_0⟩ := Kd.at_string (Kd.R_reads' HO_4.out).2.2 (ji39) p116 q116
              cases e116
              replace p116 := eq_true p116
              replace q116 := eq_true q116
              go_wp2
              go_ret2
              exact ⟨Q109, Q1⟩
             rw [if_neg c41] at H
             exact absurd H Q8
            rw [if_neg c40] at H
            exact absurd H Q8
           replace c38 := Bool.eq_false_iff.mpr c38
           subst c38
           have H1 : (if (wrap64 (a0)) ≥ 124 then (mandrelref02_Name.j5 kj35 y106 (wrap64 (a0)) (decide ((wrap64 (a0)) ≤ 138))) else (mandrelref02_Name.j5 kj35 y106 (wrap64 (a0)) false)) = some (r1, r2) := by rw [if_neg (show ¬ (false = true) by decide)] at H; exact H
           clear H
           have H := H1
           clear H1
           have HC43 := Aside0.mk H
           clear H
           go_upto_region 15 with (fail)
           go_cut [73] (fun v73 wc => ∃ (kq : Nat) (x73_42 : Bool), v73 = .bool x73_42 ∧ Aside0 (mandrelref02_Name.j5 kq y106 (wrap64 (a0)) x73_42 = some (r1, r2)) ∧ Aside0 (kq ≤ kj35) ∧ Aside0 (Kd.R Kd.string 9 wc w.heap.size (fun _ => True) v107 y106) ∧ Aside0 (Below w.heap.size w wc))
           case first =>
            have H := HC43.out
            clear HC43
            by_cases c44 : (wrap64 (a0)) ≥ 124
            ·rw [if_pos c44] at H
             have c44b0 : decide (124 ≤ (wrap64 (a0))) = true := decide_eq_true c44
             clear c44
             (first | rw [c44b0] | (simp only [i64_w, i32_w]; rw [c44b0]) | skip)
             have H' := Aside0.mk H
             clear H
             go_wp2
             go_meet
             case rel => exact ⟨_, (decide ((wrap64 (a0)) ≤ 138)), Q3, H', ⟨Q110⟩, ⟨Q111⟩, ⟨Q1⟩⟩
            rw [if_neg c44] at H
            have c44b0 : decide (124 ≤ (wrap64 (a0))) = false := decide_eq_false c44
            clear c44
            (first | rw [c44b0] | (simp only [i64_w, i32_w]; rw [c44b0]) | skip)
            have H' := Aside0.mk H
            clear H
            go_wp2
            go_meet
            case rel => exact ⟨_, (false), Q3, H', ⟨Q110⟩, ⟨Q111⟩, ⟨Q1⟩⟩
           case rest =>
            clear HC43
            try clear q1
            try clear hx1
            try clear c10
            try clear q11
            try clear hx11
            try clear c17
            try clear c24
            try clear c31
            try clear c38
            try clear hx112_0
            try clear hx113_0
            try clear hx114_0
            try clear hx115_0
            try clear hx116_0
            try clear q1
            try clear q11
            try clear q112
            try clear q113
            try clear q114
            try clear q115
            try clear q116
            obtain ⟨kq, x73_42, rfl, HA, HJ42, HO_5, HB⟩ := hcut
            cases kq with
            | zero => exact absurd HA.out (by simp [mandrelref02_Name.j5])
            | succ kj42 =>
             have H := HA.out
             clear HA
             simp only [mandrelref02_Name.j5] at H
             by_cases c45 : x73_42 = true
             ·subst c45
              have H1 : (if 0 ≤ (wrap64 ((wrap64 (a0)) - 124)) then (if (wrap64 ((wrap64 (a0)) - 124)) < (y106.length : Int) then (some (rdOf ByteArray.empty y106 (wrap64 ((wrap64 (a0)) - 124)), 64)) else (none)) else (none)) = some (r1, r2) := Q14
              clear H
              have H := H1
              clear H1
              obtain ⟨ji46, hji46⟩ : ∃ j_ : Int, (wrap64 ((wrap64 (a0)) - 124)) = j_ := ⟨_, rfl⟩
              replace H : (if 0 ≤ (ji46) then (if (ji46) < (y106.length : Int) then (some (rdOf ByteArray.empty y106 (ji46), 64)) else (none)) else (none)) = some (r1, r2) := by first | (rw [hji46] at H; exact H) | (simp only [hji46] at H ⊢; exact H)
              have hji46w : (IntKind.i64.wrap ((wrap64 (a0)) - 124)) = ji46 := (i64_w _).trans hji46
              by_cases c47 : 0 ≤ (ji46)
              ·rw [if_pos c47] at H
               have c47b0 : decide (0 ≤ (ji46)) = true := decide_eq_true c47
               clear c47
               by_cases c48 : (ji46) < (y106.length : Int)
               ·rw [if_pos c48] at H
                have c48b0 : decide ((ji46) < (y106.length : Int)) = true := decide_eq_true c48
                clear c48
                simp only [Option.some.injEq, Prod.mk.injEq] at H
                obtain ⟨rfl, rfl⟩ := H
                obtain ⟨Ao49, co49, eo49⟩ := Kd.R_slice HO_5.out
                subst eo49
                have p117 : 0 ≤ ((ji46) : Int) := of_decide_eq_true Q4
                have q117 : (ji46) < (y106.length : Int) := of_decide_eq_true Q4
                obtain ⟨ad117, e117, hx117_0⟩ := Kd.at_string (Kd.R_reads' HO_5.out).2.2 (ji46) p117 q117
                cases e117
                replace p117 := eq_true p117
                replace q117 := eq_true q117
                go_wp2
                go_ret2
                exact ⟨by first | rfl | (simp [errW_none, errW_some] <;> rfl) | (simp only [← hji46]; first | rfl | (simp [errW_none, errW_some] <;> rfl)) | (simp [*, errW_none, errW_some] <;> rfl) | (simp [hy_ne]; done), Q1⟩
               rw [if_neg c48] at H
               exact absurd H Q8
              rw [if_neg c47] at H
              exact absurd H Q8
             replace c45 := Bool.eq_false_iff.mpr c45
             subst c45
             have H1 : (if (wrap64 (a0)) = 167 then (some ((⟨#[119, 114, 97, 112]⟩ : ByteArray), 64)) else (if (wrap64 (a0)) = 172 then (some ((⟨#[101, 120, 116, 101, 110, 100, 95, 115]⟩ : ByteArray), 32)) else (if (wrap64 (a0)) = 173 then (some ((⟨#[101, 120, 116, 101, 110, 100, 95, 117]⟩ : ByteArray), 32)) else (some ((⟨#[]⟩ : ByteArray), 0))))) = some (r1, r2) := by rw [if_neg (show ¬ (false = true) by decide)] at H; exact H
             clear H
             have H := H1
             clear H1
             by_cases c50 : (wrap64 (a0)) = 167
             ·rw [if_pos c50] at H
              have c50b0 : ((wrap64 (a0)) == 167) = true := beq_iff_eq.mpr c50
              have c50b1 : ((wrap64 (a0)) != 167) = false := bne_eq_false_iff_eq.mpr c50
              clear c50
              simp only [Option.some.injEq, Prod.mk.injEq] at H
              obtain ⟨rfl, rfl⟩ := H
              go_wp2
              go_ret2
              exact ⟨Q6, Q1⟩
             rw [if_neg c50] at H
             have c50b0 : ((wrap64 (a0)) == 167) = false := beq_eq_false_iff_ne.mpr c50
             have c50b1 : ((wrap64 (a0)) != 167) = true := bne_iff_ne.mpr c50
             by_cases c51 : (wrap64 (a0)) = 172
             ·rw [if_pos c51] at H
              have c51b0 : ((wrap64 (a0)) == 172) = true := beq_iff_eq.mpr c51
              have c51b1 : ((wrap64 (a0)) != 172) = false := bne_eq_false_iff_eq.mpr c51
              clear c51
              simp only [Option.some.injEq, Prod.mk.injEq] at H
              obtain ⟨rfl, rfl⟩ := H
              go_wp2
              go_ret2
              exact ⟨Q6, Q1⟩
             rw [if_neg c51] at H
             have c51b0 : ((wrap64 (a0)) == 172) = false := beq_eq_false_iff_ne.mpr c51
             have c51b1 : ((wrap64 (a0)) != 172) = true := bne_iff_ne.mpr c51
             by_cases c52 : (wrap64 (a0)) = 173
             ·rw [if_pos c52] at H
              have c52b0 : ((wrap64 (a0)) == 173) = true := beq_iff_eq.mpr c52
              have c52b1 : ((wrap64 (a0)) != 173) = false := bne_eq_false_iff_eq.mpr c52
              clear c52
              simp only [Option.some.injEq, Prod.mk.injEq] at H
              obtain ⟨rfl, rfl⟩ := H
              go_wp2
              go_ret2
              exact ⟨Q6, Q1⟩
             rw [if_neg c52] at H
             have c52b0 : ((wrap64 (a0)) == 173) = false := beq_eq_false_iff_ne.mpr c52
             have c52b1 : ((wrap64 (a0)) != 173) = true := bne_iff_ne.mpr c52
             simp only [Option.some.injEq, Prod.mk.injEq] at H
             obtain ⟨rfl, rfl⟩ := H
             go_wp2
             go_ret2
             exact ⟨Q6, Q1⟩
end Go.Proofs.YthgkeehpoilgaaaGreatDoor.Hw
end

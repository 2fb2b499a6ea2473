import Derived.Test.YthgkeehpoilgaaaGreatDoorHwP2
import Derived.Test.YthgkeehpoilgaaaGreatDoorHwP3
section
namespace Go.Proofs.YthgkeehpoilgaaaGreatDoor.Hw
open Go.RowKit Go.Proofs.YthgkeehpoilgaaaGreatDoorW.PrintWords Go.Proofs.YthgkeehpoilgaaaGreatDoorW.PrintLast Go.Proofs.YthgkeehpoilgaaaGreatDoorW.PrintMore
attribute [local go_sem] max2_int min2_int max_two min_two max_three min_three max_four min_four
set_option linter.unusedVariables false
set_option linter.unusedSimpArgs false
mutual
def mandrelref04_Name.j0 : Nat → Int → List ByteArray → List ByteArray → List ByteArray → List ByteArray → Int → Bool → Option (ByteArray)
 | 0, _, _, _, _, _, _, _ => none
 | k + 1, x0, x4, x5, x6, x7, x8, x25 => if x25 = true then (if 0 ≤ (wrap64 (x8 - 12)) then (if (wrap64 (x8 - 12)) < (x4.length : Int) then (some (rdOf ByteArray.empty x4 (wrap64 (x8 - 12)))) else (none)) else (none)) else (if x8 = 26 then (some (⟨#[100, 114, 111, 112]⟩ : ByteArray)) else (if x8 = 27 then (some (⟨#[115, 101, 108, 101, 99, 116]⟩ : ByteArray)) else (if x8 ≥ 32 then (mandrelref04_Name.j1 k x0 x5 x6 x7 x8 (decide (x8 ≤ 36))) else (mandrelref04_Name.j1 k x0 x5 x6 x7 x8 false))))
def mandrelref04_Name.j1 : Nat → Int → List ByteArray → List ByteArray → List ByteArray → Int → Bool → Option (ByteArray)
 | 0, _, _, _, _, _, _ => none
 | k + 1, x0, x5, x6, x7, x8, x43 => if x43 = true then (if 0 ≤ (wrap64 (x8 - 32)) then (if (wrap64 (x8 - 32)) < (x5.length : Int) then (some (rdOf ByteArray.empty x5 (wrap64 (x8 - 32)))) else (none)) else (none)) else (if x8 = 40 then (some (⟨#[105, 51, 50, 46, 108, 111, 97, 100]⟩ : ByteArray)) else (if x8 = 41 then (some (⟨#[105, 54, 52, 46, 108, 111, 97, 100]⟩ : ByteArray)) else (if x8 ≥ 44 then (mandrelref04_Name.j2 k x0 x6 x7 x8 (decide (x8 ≤ 55))) else (mandrelref04_Name.j2 k x0 x6 x7 x8 false))))
def mandrelref04_Name.j2 : Nat → Int → List ByteArray → List ByteArray → Int → Bool → Option (ByteArray)
 | 0, _, _, _, _, _ => none
 | k + 1, x0, x6, x7, x8, x61 => if x61 = true then (if 0 ≤ (wrap64 (x8 - 44)) then (if (wrap64 (x8 - 44)) < (x6.length : Int) then (some (rdOf ByteArray.empty x6 (wrap64 (x8 - 44)))) else (none)) else (none)) else (if x8 ≥ 58 then (mandrelref04_Name.j3 k x0 x7 x8 (decide (x8 ≤ 66))) else (mandrelref04_Name.j3 k x0 x7 x8 false))
def mandrelref04_Name.j3 : Nat → Int → List ByteArray → Int → Bool → Option (ByteArray)
 | 0, _, _, _, _ => none
 | k + 1, x0, x7, x8, x73 => if x73 = true then (if 0 ≤ (wrap64 (x8 - 58)) then (if (wrap64 (x8 - 58)) < (x7.length : Int) then (some (rdOf ByteArray.empty x7 (wrap64 (x8 - 58)))) else (none)) else (none)) else (if x8 = 167 then (some (⟨#[105, 51, 50, 46, 119, 114, 97, 112, 95, 105, 54, 52]⟩ : ByteArray)) else (if x8 = 172 then (some (⟨#[105, 54, 52, 46, 101, 120, 116, 101, 110, 100, 95, 105, 51, 50, 95, 115]⟩ : ByteArray)) else (if x8 = 173 then (some (⟨#[105, 54, 52, 46, 101, 120, 116, 101, 110, 100, 95, 105, 51, 50, 95, 117]⟩ : ByteArray)) else ((mandrelref02_Name.f k x0).bind fun bt138 => (if bt138.1.toList = ([] : List UInt8) then (some (⟨#[]⟩ : ByteArray)) else (if bt138.2 = 32 then (if 4 + bt138.1.size ≤ 9223372036854775807 then (some ((⟨#[105, 51, 50, 46]⟩ : ByteArray) ++ bt138.1)) else (none)) else (if 4 + bt138.1.size ≤ 9223372036854775807 then (some ((⟨#[105, 54, 52, 46]⟩ : ByteArray) ++ bt138.1)) else (none))))))))
end
def mandrelref04_Name.f (k : Nat) (a0 : Int) : Option (ByteArray) := (some (([(⟨#[117, 110, 114, 101, 97, 99, 104, 97, 98, 108, 101]⟩ : ByteArray), (⟨#[110, 111, 112]⟩ : ByteArray), (⟨#[98, 108, 111, 99, 107]⟩ : ByteArray), (⟨#[108, 111, 111, 112]⟩ : ByteArray), (⟨#[105, 102]⟩ : ByteArray)] : List ByteArray) : List ByteArray)).bind fun y118 => ((some (([(⟨#[98, 114]⟩ : ByteArray), (⟨#[98, 114, 95, 105, 102]⟩ : ByteArray), (⟨#[98, 114, 95, 116, 97, 98, 108, 101]⟩ : ByteArray), (⟨#[114, 101, 116, 117, 114, 110]⟩ : ByteArray), (⟨#[99, 97, 108, 108]⟩ : ByteArray), (⟨#[99, 97, 108, 108, 95, 105, 110, 100, 105, 114, 101, 99, 116]⟩ : ByteArray)] : List ByteArray) : List ByteArray)).bind fun y121 => ((some (([(⟨#[108, 111, 99, 97, 108, 46, 103, 101, 116]⟩ : ByteArray), (⟨#[108, 111, 99, 97, 108, 46, 115, 101, 116]⟩ : ByteArray), (⟨#[108, 111, 99, 97, 108, 46, 116, 101, 101]⟩ : ByteArray), (⟨#[103, 108, 111, 98, 97, 108, 46, 103, 101, 116]⟩ : ByteArray), (⟨#[103, 108, 111, 98, 97, 108, 46, 115, 101, 116]⟩ : ByteArray)] : List ByteArray) : List ByteArray)).bind fun y124 => ((some (([(⟨#[105, 51, 50, 46, 108, 111, 97, 100, 56, 95, 115]⟩ : ByteArray), (⟨#[105, 51, 50, 46, 108, 111, 97, 100, 56, 95, 117]⟩ : ByteArray), (⟨#[105, 51, 50, 46, 108, 111, 97, 100, 49, 54, 95, 115]⟩ : ByteArray), (⟨#[105, 51, 50, 46, 108, 111, 97, 100, 49, 54, 95, 117]⟩ : ByteArray), (⟨#[105, 54, 52, 46, 108, 111, 97, 100, 56, 95, 115]⟩ : ByteArray), (⟨#[105, 54, 52, 46, 108, 111, 97, 100, 56, 95, 117]⟩ : ByteArray), (⟨#[105, 54, 52, 46, 108, 111, 97, 100, 49, 54, 95, 115]⟩ : ByteArray), (⟨#[105, 54, 52, 46, 108, 111, 97, 100, 49, 54, 95, 117]⟩ : ByteArray), (⟨#[105, 54, 52, 46, 108, 111, 97, 100, 51, 50, 95, 115]⟩ : ByteArray), (⟨#[105, 54, 52, 46, 108, 111, 97, 100, 51, 50, 95, 117]⟩ : ByteArray), (⟨#[105, 51, 50, 46, 115, 116, 111, 114, 101]⟩ : ByteArray), (⟨#[105, 54, 52, 46, 115, 116, 111, 114, 101]⟩ : ByteArray)] : List ByteArray) : List ByteArray)).bind fun y127 => ((some (([(⟨#[105, 51, 50, 46, 115, 116, 111, 114, 101, 56]⟩ : ByteArray), (⟨#[105, 51, 50, 46, 115, 116, 111, 114, 101, 49, 54]⟩ : ByteArray), (⟨#[105, 54, 52, 46, 115, 116, 111, 114, 101, 56]⟩ : ByteArray), (⟨#[105, 54, 52, 46, 115, 116, 111, 114, 101, 49, 54]⟩ : ByteArray), (⟨#[105, 54, 52, 46, 115, 116, 111, 114, 101, 51, 50]⟩ : ByteArray), (⟨#[109, 101, 109, 111, 114, 121, 46, 115, 105, 122, 101]⟩ : ByteArray), (⟨#[109, 101, 109, 111, 114, 121, 46, 103, 114, 111, 119]⟩ : ByteArray), (⟨#[105, 51, 50, 46, 99, 111, 110, 115, 116]⟩ : ByteArray), (⟨#[105, 54, 52, 46, 99, 111, 110, 115, 116]⟩ : ByteArray)] : List ByteArray) : List ByteArray)).bind fun y130 => (if (wrap64 (a0)) ≤ 4 then (if 0 ≤ (wrap64 (a0)) then (if (wrap64 (a0)) < (y118.length : Int) then (some (rdOf ByteArray.empty y118 (wrap64 (a0)))) else (none)) else (none)) else (if (wrap64 (a0)) ≥ 12 then (mandrelref04_Name.j0 k a0 y121 y124 y127 y130 (wrap64 (a0)) (decide ((wrap64 (a0)) ≤ 17))) else (mandrelref04_Name.j0 k a0 y121 y124 y127 y130 (wrap64 (a0)) false)))))))
set_option maxHeartbeats 8000000 in
set_option maxRecDepth 100000 in
theorem mandrelref04_Name.calls (k : Nat) (a0 : Int) (r : ByteArray) (w : World) (hG : GG [] w) (h : mandrelref04_Name.f k a0 = some r) :
  Calls Tryz.prog 66 #[.int .u8 a0] w fun e w' => e = .returned (.string r) ∧ Below w.heap.size w w' := by
 have HB := Aside0.mk (Below.refl w.heap.size w)
 have HG := Aside0.mk hG
 clear hG
 have H : ((some (([(⟨#[117, 110, 114, 101, 97, 99, 104, 97, 98, 108, 101]⟩ : ByteArray), (⟨#[110, 111, 112]⟩ : ByteArray), (⟨#[98, 108, 111, 99, 107]⟩ : ByteArray), (⟨#[108, 111, 111, 112]⟩ : ByteArray), (⟨#[105, 102]⟩ : ByteArray)] : List ByteArray) : List ByteArray)).bind fun y118 => ((some (([(⟨#[98, 114]⟩ : ByteArray), (⟨#[98, 114, 95, 105, 102]⟩ : ByteArray), (⟨#[98, 114, 95, 116, 97, 98, 108, 101]⟩ : ByteArray), (⟨#[114, 101, 116, 117, 114, 110]⟩ : ByteArray), (⟨#[99, 97, 108, 108]⟩ : ByteArray), (⟨#[99, 97, 108, 108, 95, 105, 110, 100, 105, 114, 101, 99, 116]⟩ : ByteArray)] : List ByteArray) : List ByteArray)).bind fun y121 => ((some (([(⟨#[108, 111, 99, 97, 108, 46, 103, 101, 116]⟩ : ByteArray), (⟨#[108, 111, 99, 97, 108, 46, 115, 101, 116]⟩ : ByteArray), (⟨#[108, 111, 99, 97, 108, 46, 116, 101, 101]⟩ : ByteArray), (⟨#[103, 108, 111, 98, 97, 108, 46, 103, 101, 116]⟩ : ByteArray), (⟨#[103, 108, 111, 98, 97, 108, 46, 115, 101, 116]⟩ : ByteArray)] : List ByteArray) : List ByteArray)).bind fun y124 => ((some (([(⟨#[105, 51, 50, 46, 108, 111, 97, 100, 56, 95, 115]⟩ : ByteArray), (⟨#[105, 51, 50, 46, 108, 111, 97, 100, 56, 95, 117]⟩ : ByteArray), (⟨#[105, 51, 50, 46, 108, 111, 97, 100, 49, 54, 95, 115]⟩ : ByteArray), (⟨#[105, 51, 50, 46, 108, 111, 97, 100, 49, 54, 95, 117]⟩ : ByteArray), (⟨#[105, 54, 52, 46, 108, 111, 97, 100, 56, 95, 115]⟩ : ByteArray), (⟨#[105, 54, 52, 46, 108, 111, 97, 100, 56, 95, 117]⟩ : ByteArray), (⟨#[105, 54, 52, 46, 108, 111, 97, 100, 49, 54, 95, 115]⟩ : ByteArray), (⟨#[105, 54, 52, 46, 108, 111, 97, 100, 49, 54, 95, 117]⟩ : ByteArray), (⟨#[105, 54, 52, 46, 108, 111, 97, 100, 51, 50, 95, 115]⟩ : ByteArray), (⟨#[105, 54, 52, 46, 108, 111, 97, 100, 51, 50, 95, 117]⟩ : ByteArray), (⟨#[105, 51, 50, 46, 115, 116, 111, 114, 101]⟩ : ByteArray), (⟨#[105, 54, 52, 46, 115, 116, 111, 114, 101]⟩ : ByteArray)] : List ByteArray) : List ByteArray)).bind fun y127 => ((some (([(⟨#[105, 51, 50, 46, 115, 116, 111, 114, 101, 56]⟩ : ByteArray), (⟨#[105, 51, 50, 46, 115, 116, 111, 114, 101, 49, 54]⟩ : ByteArray), (⟨#[105, 54, 52, 46, 115, 116, 111, 114, 101, 56]⟩ : ByteArray), (⟨#[105, 54, 52, 46, 115, 116, 111, 114, 101, 49, 54]⟩ : ByteArray), (⟨#[105, 54, 52, 46, 115, 116, 111, 114, 101, 51, 50]⟩ : ByteArray), (⟨#[109, 101, 109, 111, 114, 121, 46, 115, 105, 122, 101]⟩ : ByteArray), (⟨#[109, 101, 109, 111, 114, 121, 46, 103, 114, 111, 119]⟩ : ByteArray), (⟨#[105, 51, 50, 46, 99, 111, 110, 115, 116]⟩ : ByteArray), (⟨#[105, 54, 52, 46, 99, 111, 110, 115, 116]⟩ : ByteArray)] : List ByteArray) : List ByteArray)).bind fun y130 => (if (wrap64 (a0)) ≤ 4 then (if 0 ≤ (wrap64 (a0)) then (if (wrap64 (a0)) < (y118.length : Int) then (some (rdOf ByteArray.empty y118 (wrap64 (a0)))) else (none)) else (none)) else (if (wrap64 (a0)) ≥ 12 then (mandrelref04_Name.j0 k a0 y121 y124 y127 y130 (wrap64 (a0)) (decide ((wrap64 (a0)) ≤ 17))) else (mandrelref04_Name.j0 k a0 y121 y124 y127 y130 (wrap64 (a0)) false)))))))) = some r := h
 clear h
 obtain ⟨y118, hy118⟩ : ∃ y_ : List ByteArray, y_ = (([(⟨#[117, 110, 114, 101, 97, 99, 104, 97, 98, 108, 101]⟩ : ByteArray), (⟨#[110, 111, 112]⟩ : ByteArray), (⟨#[98, 108, 111, 99, 107]⟩ : ByteArray), (⟨#[108, 111, 111, 112]⟩ : ByteArray), (⟨#[105, 102]⟩ : ByteArray)] : List ByteArray)) := ⟨_, rfl⟩
 replace H : ((some (([(⟨#[98, 114]⟩ : ByteArray), (⟨#[98, 114, 95, 105, 102]⟩ : ByteArray), (⟨#[98, 114, 95, 116, 97, 98, 108, 101]⟩ : ByteArray), (⟨#[114, 101, 116, 117, 114, 110]⟩ : ByteArray), (⟨#[99, 97, 108, 108]⟩ : ByteArray), (⟨#[99, 97, 108, 108, 95, 105, 110, 100, 105, 114, 101, 99, 116]⟩ : ByteArray)] : List ByteArray) : List ByteArray)).bind fun y121 => ((some (([(⟨#[108, 111, 99, 97, 108, 46, 103, 101, 116]⟩ : ByteArray), (⟨#[108, 111, 99, 97, 108, 46, 115, 101, 116]⟩ : ByteArray), (⟨#[108, 111, 99, 97, 108, 46, 116, 101, 101]⟩ : ByteArray), (⟨#[103, 108, 111, 98, 97, 108, 46, 103, 101, 116]⟩ : ByteArray), (⟨#[103, 108, 111, 98, 97, 108, 46, 115, 101, 116]⟩ : ByteArray)] : List ByteArray) : List ByteArray)).bind fun y124 => ((some (([(⟨#[105, 51, 50, 46, 108, 111, 97, 100, 56, 95, 115]⟩ : ByteArray), (⟨#[105, 51, 50, 46, 108, 111, 97, 100, 56, 95, 117]⟩ : ByteArray), (⟨#[105, 51, 50, 46, 108, 111, 97, 100, 49, 54, 95, 115]⟩ : ByteArray), (⟨#[105, 51, 50, 46, 108, 111, 97, 100, 49, 54, 95, 117]⟩ : ByteArray), (⟨#[105, 54, 52, 46, 108, 111, 97, 100, 56, 95, 115]⟩ : ByteArray), (⟨#[105, 54, 52, 46, 108, 111, 97, 100, 56, 95, 117]⟩ : ByteArray), (⟨#[105, 54, 52, 46, 108, 111, 97, 100, 49, 54, 95, 115]⟩ : ByteArray), (⟨#[105, 54, 52, 46, 108, 111, 97, 100, 49, 54, 95, 117]⟩ : ByteArray), (⟨#[105, 54, 52, 46, 108, 111, 97, 100, 51, 50, 95, 115]⟩ : ByteArray), (⟨#[105, 54, 52, 46, 108, 111, 97, 100, 51, 50, 95, 117]⟩ : ByteArray), (⟨#[105, 51, 50, 46, 115, 116, 111, 114, 101]⟩ : ByteArray), (⟨#[105, 54, 52, 46, 115, 116, 111, 114, 101]⟩ : ByteArray)] : List ByteArray) : List ByteArray)).bind fun y127 => ((some (([(⟨#[105, 51, 50, 46, 115, 116, 111, 114, 101, 56]⟩ : ByteArray), (⟨#[105, 51, 50, 46, 115, 116, 111, 114, 101, 49, 54]⟩ : ByteArray), (⟨#[105, 54, 52, 46, 115, 116, 111, 114, 101, 56]⟩ : ByteArray), (⟨#[105, 54, 52, 46, 115, 116, 111, 114, 101, 49, 54]⟩ : ByteArray), (⟨#[105, 54, 52, 46, 115, 116, 111, 114, 101, 51, 50]⟩ : ByteArray), (⟨#[109, 101, 109, 111, 114, 121, 46, 115, 105, 122, 101]⟩ : ByteArray), (⟨#[109, 101, 109, 111, 114, 121, 46, 103, 114, 111, 119]⟩ : ByteArray), (⟨#[105, 51, 50, 46, 99, 111, 110, 115, 116]⟩ : ByteArray), (⟨#[105, 54, 52, 46, 99, 111, 110, 115, 116]⟩ : ByteArray)] : List ByteArray) : List ByteArray)).bind fun y130 => (if (wrap64 (a0)) ≤ 4 then (if 0 ≤ (wrap64 (a0)) then (if (wrap64 (a0)) < (y118.length : Int) then (some (rdOf ByteArray.empty y118 (wrap64 (a0)))) else (none)) else (none)) else (if (wrap64 (a0)) ≥ 12 then (mandrelref04_Name.j0 k a0 y121 y124 y127 y130 (wrap64 (a0)) (decide ((wrap64 (a0)) ≤ 17))) else (mandrelref04_Name.j0 k a0 y121 y124 y127 y130 (wrap64 (a0)) false))))))) = some r := by first | (rw [hy118]; with_reducible exact H) | (have H2_ := (Option.bind_some _ _).symm.trans H; rw [hy118]; with_reducible exact H2_) | (have H2_ := (Option.bind_some _ _).symm.trans H; with_reducible exact H2_) | with_reducible exact H | (rw [hy118]; exact H) | exact H
 have Ny118 := Aside0.mk hy118
 clear hy118
 obtain ⟨y121, hy121⟩ : ∃ y_ : List ByteArray, y_ = (([(⟨#[98, 114]⟩ : ByteArray), (⟨#[98, 114, 95, 105, 102]⟩ : ByteArray), (⟨#[98, 114, 95, 116, 97, 98, 108, 101]⟩ : ByteArray), (⟨#[114, 101, 116, 117, 114, 110]⟩ : ByteArray), (⟨#[99, 97, 108, 108]⟩ : ByteArray), (⟨#[99, 97, 108, 108, 95, 105, 110, 100, 105, 114, 101, 99, 116]⟩ : ByteArray)] : List ByteArray)) := ⟨_, rfl⟩
 replace H : ((some (([(⟨#[108, 111, 99, 97, 108, 46, 103, 101, 116]⟩ : ByteArray), (⟨#[108, 111, 99, 97, 108, 46, 115, 101, 116]⟩ : ByteArray), (⟨#[108, 111, 99, 97, 108, 46, 116, 101, 101]⟩ : ByteArray), (⟨#[103, 108, 111, 98, 97, 108, 46, 103, 101, 116]⟩ : ByteArray), (⟨#[103, 108, 111, 98, 97, 108, 46, 115, 101, 116]⟩ : ByteArray)] : List ByteArray) : List ByteArray)).bind fun y124 => ((some (([(⟨#[105, 51, 50, 46, 108, 111, 97, 100, 56, 95, 115]⟩ : ByteArray), (⟨#[105, 51, 50, 46, 108, 111, 97, 100, 56, 95, 117]⟩ : ByteArray), (⟨#[105, 51, 50, 46, 108, 111, 97, 100, 49, 54, 95, 115]⟩ : ByteArray), (⟨#[105, 51, 50, 46, 108, 111, 97, 100, 49, 54, 95, 117]⟩ : ByteArray), (⟨#[105, 54, 52, 46, 108, 111, 97, 100, 56, 95, 115]⟩ : ByteArray), (⟨#[105, 54, 52, 46, 108, 111, 97, 100, 56, 95, 117]⟩ : ByteArray), (⟨#[105, 54, 52, 46, 108, 111, 97, 100, 49, 54, 95, 115]⟩ : ByteArray), (⟨#[105, 54, 52, 46, 108, 111, 97, 100, 49, 54, 95, 117]⟩ : ByteArray), (⟨#[105, 54, 52, 46, 108, 111, 97, 100, 51, 50, 95, 115]⟩ : ByteArray), (⟨#[105, 54, 52, 46, 108, 111, 97, 100, 51, 50, 95, 117]⟩ : ByteArray), (⟨#[105, 51, 50, 46, 115, 116, 111, 114, 101]⟩ : ByteArray), (⟨#[105, 54, 52, 46, 115, 116, 111, 114, 101]⟩ : ByteArray)] : List ByteArray) : List ByteArray)).bind fun y127 => ((some (([(⟨#[105, 51, 50, 46, 115, 116, 111, 114, 101, 56]⟩ : ByteArray), (⟨#[105, 51, 50, 46, 115, 116, 111, 114, 101, 49, 54]⟩ : ByteArray), (⟨#[105, 54, 52, 46, 115, 116, 111, 114, 101, 56]⟩ : ByteArray), (⟨#[105, 54, 52, 46, 115, 116, 111, 114, 101, 49, 54]⟩ : ByteArray), (⟨#[105, 54, 52, 46, 115, 116, 111, 114, 101, 51, 50]⟩ : ByteArray), (⟨#[109, 101, 109, 111, 114, 121, 46, 115, 105, 122, 101]⟩ : ByteArray), (⟨#[109, 101, 109, 111, 114, 121, 46, 103, 114, 111, 119]⟩ : ByteArray), (⟨#[105, 51, 50, 46, 99, 111, 110, 115, 116]⟩ : ByteArray), (⟨#[105, 54, 52, 46, 99, 111, 110, 115, 116]⟩ : ByteArray)] : List ByteArray) : List ByteArray)).bind fun y130 => (if (wrap64 (a0)) ≤ 4 then (if 0 ≤ (wrap64 (a0)) then (if (wrap64 (a0)) < (y118.length : Int) then (some (rdOf ByteArray.empty y118 (wrap64 (a0)))) else (none)) else (none)) else (if (wrap64 (a0)) ≥ 12 then (mandrelref04_Name.j0 k a0 y121 y124 y127 y130 (wrap64 (a0)) (decide ((wrap64 (a0)) ≤ 17))) else (mandrelref04_Name.j0 k a0 y121 y124 y127 y130 (wrap64 (a0)) false)))))) = some r := by first | (rw [hy121]; with_reducible exact H) | (have H2_ := (Option.bind_some _ _).symm.trans H; rw [hy121]; with_reducible exact H2_) | (have H2_ := (Option.bind_some _ _).symm.trans H; with_reducible exact H2_) | with_reducible exact H | (rw [hy121]; exact H) | exact H
 have Ny121 := Aside0.mk hy121
 clear hy121
 obtain ⟨y124, hy124⟩ : ∃ y_ : List ByteArray, y_ = (([(⟨#[108, 111, 99, 97, 108, 46, 103, 101, 116]⟩ : ByteArray), (⟨#[108, 111, 99, 97, 108, 46, 115, 101, 116]⟩ : ByteArray), (⟨#[108, 111, 99, 97, 108, 46, 116, 101, 101]⟩ : ByteArray), (⟨#[103, 108, 111, 98, 97, 108, 46, 103, 101, 116]⟩ : ByteArray), (⟨#[103, 108, 111, 98, 97, 108, 46, 115, 101, 116]⟩ : ByteArray)] : List ByteArray)) := ⟨_, rfl⟩
 replace H : ((some (([(⟨#[105, 51, 50, 46, 108, 111, 97, 100, 56, 95, 115]⟩ : ByteArray), (⟨#[105, 51, 50, 46, 108, 111, 97, 100, 56, 95, 117]⟩ : ByteArray), (⟨#[105, 51, 50, 46, 108, 111, 97, 100, 49, 54, 95, 115]⟩ : ByteArray), (⟨#[105, 51, 50, 46, 108, 111, 97, 100, 49, 54, 95, 117]⟩ : ByteArray), (⟨#[105, 54, 52, 46, 108, 111, 97, 100, 56, 95, 115]⟩ : ByteArray), (⟨#[105, 54, 52, 46, 108, 111, 97, 100, 56, 95, 117]⟩ : ByteArray), (⟨#[105, 54, 52, 46, 108, 111, 97, 100, 49, 54, 95, 115]⟩ : ByteArray), (⟨#[105, 54, 52, 46, 108, 111, 97, 100, 49, 54, 95, 117]⟩ : ByteArray), (⟨#[105, 54, 52, 46, 108, 111, 97, 100, 51, 50, 95, 115]⟩ : ByteArray), (⟨#[105, 54, 52, 46, 108, 111, 97, 100, 51, 50, 95, 117]⟩ : ByteArray), (⟨#[105, 51, 50, 46, 115, 116, 111, 114, 101]⟩ : ByteArray), (⟨#[105, 54, 52, 46, 115, 116, 111, 114, 101]⟩ : ByteArray)] : List ByteArray) : List ByteArray)).bind fun y127 => ((some (([(⟨#[105, 51, 50, 46, 115, 116, 111, 114, 101, 56]⟩ : ByteArray), (⟨#[105, 51, 50, 46, 115, 116, 111, 114, 101, 49, 54]⟩ : ByteArray), (⟨#[105, 54, 52, 46, 115, 116, 111, 114, 101, 56]⟩ : ByteArray), (⟨#[105, 54, 52, 46, 115, 116, 111, 114, 101, 49, 54]⟩ : ByteArray), (⟨#[105, 54, 52, 46, 115, 116, 111, 114, 101, 51, 50]⟩ : ByteArray), (⟨#[109, 101, 109, 111, 114, 121, 46, 115, 105, 122, 101]⟩ : ByteArray), (⟨#[109, 101, 109, 111, 114, 121, 46, 103, 114, 111, 119]⟩ : ByteArray), (⟨#[105, 51, 50, 46, 99, 111, 110, 115, 116]⟩ : ByteArray), (⟨#[105, 54, 52, 46, 99, 111, 110, 115, 116]⟩ : ByteArray)] : List ByteArray) : List ByteArray)).bind fun y130 => (if (wrap64 (a0)) ≤ 4 then (if 0 ≤ (wrap64 (a0)) then (if (wrap64 (a0)) < (y118.length : Int) then (some (rdOf ByteArray.empty y118 (wrap64 (a0)))) else (none)) else (none)) else (if (wrap64 (a0)) ≥ 12 then (mandrelref04_Name.j0 k a0 y121 y124 y127 y130 (wrap64 (a0)) (decide ((wrap64 (a0)) ≤ 17))) else (mandrelref04_Name.j0 k a0 y121 y124 y127 y130 (wrap64 (a0)) false))))) = some r := by first | (rw [hy124]; with_reducible exact H) | (have H2_ := (Option.bind_some _ _).symm.trans H; rw [hy124]; with_reducible exact H2_) | (have H2_ := (Option.bind_some _ _).symm.trans H; with_reducible exact H2_) | with_reducible exact H | (rw [hy124]; exact H) | exact H
 have Ny124 := Aside0.mk hy124
 clear hy124
 obtain ⟨y127, hy127⟩ : ∃ y_ : List ByteArray, y_ = (([(⟨#[105, 51, 50, 46, 108, 111, 97, 100, 56, 95, 115]⟩ : ByteArray), (⟨#[105, 51, 50, 46, 108, 111, 97, 100, 56, 95, 117]⟩ : ByteArray), (⟨#[105, 51, 50, 46, 108, 111, 97, 100, 49, 54, 95, 115]⟩ : ByteArray), (⟨#[105, 51, 50, 46, 108, 111, 97, 100, 49, 54, 95, 117]⟩ : ByteArray), (⟨#[105, 54, 52, 46, 108, 111, 97, 100, 56, 95, 115]⟩ : ByteArray), (⟨#[105, 54, 52, 46, 108, 111, 97, 100, 56, 95, 117]⟩ : ByteArray), (⟨#[105, 54, 52, 46, 108, 111, 97, 100, 49, 54, 95, 115]⟩ : ByteArray), (⟨#[105, 54, 52, 46, 108, 111, 97, 100, 49, 54, 95, 117]⟩ : ByteArray), (⟨#[105, 54, 52, 46, 108, 111, 97, 100, 51, 50, 95, 115]⟩ : ByteArray), (⟨#[105, 54, 52, 46, 108, 111, 97, 100, 51, 50, 95, 117]⟩ : ByteArray), (⟨#[105, 51, 50, 46, 115, 116, 111, 114, 101]⟩ : ByteArray), (⟨#[105, 54, 52, 46, 115, 116, 111, 114, 101]⟩ : ByteArray)] : List ByteArray)) := ⟨_, rfl⟩
 replace H : ((some (([(⟨#[105, 51, 50, 46, 115, 116, 111, 114, 101, 56]⟩ : ByteArray), (⟨#[105, 51, 50, 46, 115, 116, 111, 114, 101, 49, 54]⟩ : ByteArray), (⟨#[105, 54, 52, 46, 115, 116, 111, 114, 101, 56]⟩ : ByteArray), (⟨#[105, 54, 52, 46, 115, 116, 111, 114, 101, 49, 54]⟩ : ByteArray), (⟨#[105, 54, 52, 46, 115, 116, 111, 114, 101, 51, 50]⟩ : ByteArray), (⟨#[109, 101, 109, 111, 114, 121, 46, 115, 105, 122, 101]⟩ : ByteArray), (⟨#[109, 101, 109, 111, 114, 121, 46, 103, 114, 111, 119]⟩ : ByteArray), (⟨#[105, 51, 50, 46, 99, 111, 110, 115, 116]⟩ : ByteArray), (⟨#[105, 54, 52, 46, 99, 111, 110, 115, 116]⟩ : ByteArray)] : List ByteArray) : List ByteArray)).bind fun y130 => (if (wrap64 (a0)) ≤ 4 then (if 0 ≤ (wrap64 (a0)) then (if (wrap64 (a0)) < (y118.length : Int) then (some (rdOf ByteArray.empty y118 (wrap64 (a0)))) else (none)) else (none)) else (if (wrap64 (a0)) ≥ 12 then (mandrelref04_Name.j0 k a0 y121 y124 y127 y130 (wrap64 (a0)) (decide ((wrap64 (a0)) ≤ 17))) else (mandrelref04_Name.j0 k a0 y121 y124 y127 y130 (wrap64 (a0)) false)))) = some r := by first | (rw [hy127]; with_reducible exact H) | (have H2_ := (Option.bind_some _ _).symm.trans H; rw [hy127]; with_reducible exact H2_) | (have H2_ := (Option.bind_some _ _).symm.trans H; with_reducible exact H2_) | with_reducible exact H | (rw [hy127]; exact H) | exact H
 have Ny127 := Aside0.mk hy127
 clear hy127
 obtain ⟨y130, hy130⟩ : ∃ y_ : List ByteArray, y_ = (([(⟨#[105, 51, 50, 46, 115, 116, 111, 114, 101, 56]⟩ : ByteArray), (⟨#[105, 51, 50, 46, 115, 116, 111, 114, 101, 49, 54]⟩ : ByteArray), (⟨#[105, 54, 52, 46, 115, 116, 111, 114, 101, 56]⟩ : ByteArray), (⟨#[105, 54, 52, 46, 115, 116, 111, 114, 101, 49, 54]⟩ : ByteArray), (⟨#[105, 54, 52, 46, 115, 116, 111, 114, 101, 51, 50]⟩ : ByteArray), (⟨#[109, 101, 109, 111, 114, 121, 46, 115, 105, 122, 101]⟩ : ByteArray), (⟨#[109, 101, 109, 111, 114, 121, 46, 103, 114, 111, 119]⟩ : ByteArray), (⟨#[105, 51, 50, 46, 99, 111, 110, 115, 116]⟩ : ByteArray), (⟨#[105, 54, 52, 46, 99, 111, 110, 115, 116]⟩ : ByteArray)] : List ByteArray)) := ⟨_, rfl⟩
 replace H : (if (wrap64 (a0)) ≤ 4 then (if 0 ≤ (wrap64 (a0)) then (if (wrap64 (a0)) < (y118.length : Int) then (some (rdOf ByteArray.empty y118 (wrap64 (a0)))) else (none)) else (none)) else (if (wrap64 (a0)) ≥ 12 then (mandrelref04_Name.j0 k a0 y121 y124 y127 y130 (wrap64 (a0)) (decide ((wrap64 (a0)) ≤ 17))) else (mandrelref04_Name.j0 k a0 y121 y124 y127 y130 (wrap64 (a0)) false))) = some r := by first | (rw [hy130]; with_reducible exact H) | (have H2_ := (Option.bind_some _ _).symm.trans H; rw [hy130]; with_reducible exact H2_) | (have H2_ := (Option.bind_some _ _).symm.trans H; with_reducible exact H2_) | with_reducible exact H | (rw [hy130]; exact H) | exact H
 have Ny130 := Aside0.mk hy130
 clear hy130
 by_cases c2 : (wrap64 (a0)) ≤ 4
 ·rw [if_pos c2] at H
  have c2b0 : decide ((wrap64 (a0)) ≤ 4) = true := decide_eq_true c2
  clear c2
  obtain ⟨ji3, hji3⟩ : ∃ j_ : Int, (wrap64 (a0)) = j_ := ⟨_, rfl⟩
  replace H : (if 0 ≤ (ji3) then (if (ji3) < (y118.length : Int) then (some (rdOf ByteArray.empty y118 (ji3))) else (none)) else (none)) = some r := by first | (rw [hji3] at H; exact H) | (simp only [hji3] at H ⊢; exact H)
  (try rw [hji3] at c2b0)
  have hji3w : (IntKind.i64.wrap (a0)) = ji3 := (i64_w _).trans hji3
  by_cases c4 : 0 ≤ (ji3)
  ·rw [if_pos c4] at H
   have c4b0 : decide (0 ≤ (ji3)) = true := decide_eq_true c4
   clear c4
   by_cases c5 : (ji3) < (y118.length : Int)
   ·rw [if_pos c5] at H
    have c5b0 : decide ((ji3) < (y118.length : Int)) = true := decide_eq_true c5
    clear c5
    obtain rfl := Option.some.inj H
    go_enter Tryz.func66, Tryz.ntmps66
    go_wp2_with (first | ((with_reducible refine gate_dst (N := 11) rfl ?_); refine Kd.R_lit Kd.string _ 9 ?hg (N := 11) ?hd (xs := ([(⟨#[117, 110, 114, 101, 97, 99, 104, 97, 98, 108, 101]⟩ : ByteArray), (⟨#[110, 111, 112]⟩ : ByteArray), (⟨#[98, 108, 111, 99, 107]⟩ : ByteArray), (⟨#[108, 111, 111, 112]⟩ : ByteArray), (⟨#[105, 102]⟩ : ByteArray)] : List ByteArray)) (inner := [.string (⟨#[117, 110, 114, 101, 97, 99, 104, 97, 98, 108, 101]⟩ : ByteArray), .string (⟨#[110, 111, 112]⟩ : ByteArray), .string (⟨#[98, 108, 111, 99, 107]⟩ : ByteArray), .string (⟨#[108, 111, 111, 112]⟩ : ByteArray), .string (⟨#[105, 102]⟩ : ByteArray)]) (ok := fun _ => True) (okp := fun _ => True) ?hr ?hp (fun _ hk => hk) trivial (Below.refl _ _) (Nat.le_refl _) Q8 ?_; (case hd => rfl); (case hg => rfl); (case hr => first | (go_simp; done) | (go_simp; rfl)); (case hp => exact (Reps.one (show Kd.M Kd.string _ _ _ (⟨#[117, 110, 114, 101, 97, 99, 104, 97, 98, 108, 101]⟩ : ByteArray) [.string (⟨#[117, 110, 114, 101, 97, 99, 104, 97, 98, 108, 101]⟩ : ByteArray)] from rfl) (Reps.one (show Kd.M Kd.string _ _ _ (⟨#[110, 111, 112]⟩ : ByteArray) [.string (⟨#[110, 111, 112]⟩ : ByteArray)] from rfl) (Reps.one (show Kd.M Kd.string _ _ _ (⟨#[98, 108, 111, 99, 107]⟩ : ByteArray) [.string (⟨#[98, 108, 111, 99, 107]⟩ : ByteArray)] from rfl) (Reps.one (show Kd.M Kd.string _ _ _ (⟨#[108, 111, 111, 112]⟩ : ByteArray) [.string (⟨#[108, 111, 111, 112]⟩ : ByteArray)] from rfl) (Reps.one (show Kd.M Kd.string _ _ _ (⟨#[105, 102]⟩ : ByteArray) [.string (⟨#[105, 102]⟩ : ByteArray)] from rfl) (Reps.none _ _))))))); intro v119 w6 ho7 hb hg_ hnew_; clear hg_ hnew_; (first | rw [← Ny118.out] at ho7 | (simp only [Int.reduceToNat] at ho7; rw [← Ny118.out] at ho7)); have n0_ := Aside0.mk (Kd.R_lower ho7 (below_size Q1)); have n1_ := Aside0.mk (below_step Q1 hb); clear HB; have HO120 := n0_; have HB := n1_; clear n0_ n1_; clear hb ho7) | ((with_reducible refine gate_dst (N := 12) rfl ?_); refine Kd.R_lit Kd.string _ 9 ?hg (N := 12) ?hd (xs := ([(⟨#[98, 114]⟩ : ByteArray), (⟨#[98, 114, 95, 105, 102]⟩ : ByteArray), (⟨#[98, 114, 95, 116, 97, 98, 108, 101]⟩ : ByteArray), (⟨#[114, 101, 116, 117, 114, 110]⟩ : ByteArray), (⟨#[99, 97, 108, 108]⟩ : ByteArray), (⟨#[99, 97, 108, 108, 95, 105, 110, 100, 105, 114, 101, 99, 116]⟩ : ByteArray)] : List ByteArray)) (inner := [.string (⟨#[98, 114]⟩ : ByteArray), .string (⟨#[98, 114, 95, 105, 102]⟩ : ByteArray), .string (⟨#[98, 114, 95, 116, 97, 98, 108, 101]⟩ : ByteArray), .string (⟨#[114, 101, 116, 117, 114, 110]⟩ : ByteArray), .string (⟨#[99, 97, 108, 108]⟩ : ByteArray), .string (⟨#[99, 97, 108, 108, 95, 105, 110, 100, 105, 114, 101, 99, 116]⟩ : ByteArray)]) (ok := fun _ => True) (okp := fun _ => True) ?hr ?hp (fun _ hk => hk) trivial (Below.refl _ _) (Nat.le_refl _) Q8 ?_; (case hd => rfl); (case hg => rfl); (case hr => first | (go_simp; done) | (go_simp; rfl)); (case hp => exact (Reps.one (show Kd.M Kd.string _ _ _ (⟨#[98, 114]⟩ : ByteArray) [.string (⟨#[98, 114]⟩ : ByteArray)] from rfl) (Reps.one (show Kd.M Kd.string _ _ _ (⟨#[98, 114, 95, 105, 102]⟩ : ByteArray) [.string (⟨#[98, 114, 95, 105, 102]⟩ : ByteArray)] from rfl) (Reps.one (show Kd.M Kd.string _ _ _ (⟨#[98, 114, 95, 116, 97, 98, 108, 101]⟩ : ByteArray) [.string (⟨#[98, 114, 95, 116, 97, 98, 108, 101]⟩ : ByteArray)] from rfl) (Reps.one (show Kd.M Kd.string _ _ _ (⟨#[114, 101, 116, 117, 114, 110]⟩ : ByteArray) [.string (⟨#[114, 101, 116, 117, 114, 110]⟩ : ByteArray)] from rfl) (Reps.one (show Kd.M Kd.string _ _ _ (⟨#[99, 97, 108, 108]⟩ : ByteArray) [.string (⟨#[99, 97, 108, 108]⟩ : ByteArray)] from rfl) (Reps.one (show Kd.M Kd.string _ _ _ (⟨#[99, 97, 108, 108, 95, 105, 110, 100, 105, 114, 101, 99, 116]⟩ : ByteArray) [.string (⟨#[99, 97, 108, 108, 95, 105, 110, 100, 105, 114, 101, 99, 116]⟩ : ByteArray)] from rfl) (Reps.none _ _)))))))); intro v122 w8 ho9 hb hg_ hnew_; clear hg_ hnew_; (first | rw [← Ny121.out] at ho9 | (simp only [Int.reduceToNat] at ho9; rw [← Ny121.out] at ho9)); have n0_ := Aside0.mk (Kd.R_elder' Q36 (Kd.R_base ho9) hb); have n1_ := Aside0.mk (Kd.R_lower (Kd.R_new' ho9 (Kd.R_lt Q36)) (below_size Q1)); have n2_ := Aside0.mk (below_step Q1 hb); clear HO120; clear HB; have HO120 := n0_; have HO123 := n1_; have HB := n2_; clear n0_ n1_ n2_; clear hb ho9) | ((with_reducible refine gate_dst (N := 13) rfl ?_); refine Kd.R_lit Kd.string _ 9 ?hg (N := 13) ?hd (xs := ([(⟨#[108, 111, 99, 97, 108, 46, 103, 101, 116]⟩ : ByteArray), (⟨#[108, 111, 99, 97, 108, 46, 115, 101, 116]⟩ : ByteArray), (⟨#[108, 111, 99, 97, 108, 46, 116, 101, 101]⟩ : ByteArray), (⟨#[103, 108, 111, 98, 97, 108, 46, 103, 101, 116]⟩ : ByteArray), (⟨#[103, 108, 111, 98, 97, 108, 46, 115, 101, 116]⟩ : ByteArray)] : List ByteArray)) (inner := [.string (⟨#[108, 111, 99, 97, 108, 46, 103, 101, 116]⟩ : ByteArray), .string (⟨#[108, 111, 99, 97, 108, 46, 115, 101, 116]⟩ : ByteArray), .string (⟨#[108, 111, 99, 97, 108, 46, 116, 101, 101]⟩ : ByteArray), .string (⟨#[103, 108, 111, 98, 97, 108, 46, 103, 101, 116]⟩ : ByteArray), .string (⟨#[103, 108, 111, 98, 97, 108, 46, 115, 101, 116]⟩ : ByteArray)]) (ok := fun _ => True) (okp := fun _ => True) ?hr ?hp (fun _ hk => hk) trivial (Below.refl _ _) (Nat.le_refl _) Q8 ?_; (case hd => rfl); (case hg => rfl); (case hr => first | (go_simp; done) | (go_simp; rfl)); (case hp => exact (Reps.one (show Kd.M Kd.string _ _ _ (⟨#[108, 111, 99, 97, 108, 46, 103, 101, 116]⟩ : ByteArray) [.string (⟨#[108, 111, 99, 97, 108, 46, 103, 101, 116]⟩ : ByteArray)] from rfl) (Reps.one (show Kd.M Kd.string _ _ _ (⟨#[108, 111, 99, 97, 108, 46, 115, 101, 116]⟩ : ByteArray) [.string (⟨#[108, 111, 99, 97, 108, 46, 115, 101, 116]⟩ : ByteArray)] from rfl) (Reps.one (show Kd.M Kd.string _ _ _ (⟨#[108, 111, 99, 97, 108, 46, 116, 101, 101]⟩ : ByteArray) [.string (⟨#[108, 111, 99, 97, 108, 46, 116, 101, 101]⟩ : ByteArray)] from rfl) (Reps.one (show Kd.M Kd.string _ _ _ (⟨#[103, 108, 111, 98, 97, 108, 46, 103, 101, 116]⟩ : ByteArray) [.string (⟨#[103, 108, 111, 98, 97, 108, 46, 103, 101, 116]⟩ : ByteArray)] from rfl) (Reps.one (show Kd.M Kd.string _ _ _ (⟨#[103, 108, 111, 98, 97, 108, 46, 115, 101, 116]⟩ : ByteArray) [.string (⟨#[103, 108, 111, 98, 97, 108, 46, 115, 101, 116]⟩ : ByteArray)] from rfl) (Reps.none _ _))))))); intro v125 w10 ho11 hb hg_ hnew_; clear hg_ hnew_; (first | rw [← Ny124.out] at ho11 | (simp only [Int.reduceToNat] at ho11; rw [← Ny124.out] at ho11)); have n0_ := Aside0.mk (Kd.R_elder' Q36 (Kd.R_base ho11) hb); have n1_ := Aside0.mk (Kd.R_elder' Q42 (Kd.R_base ho11) hb); have n2_ := Aside0.mk (Kd.R_lower (Kd.R_new' (Kd.R_new' ho11 (Kd.R_lt Q36)) (Kd.R_lt Q42)) (below_size Q1)); have n3_ := Aside0.mk (below_step Q1 hb); clear HO120; clear HO123; clear HB; have HO120 := n0_; have HO123 := n1_; have HO126 := n2_; have HB := n3_; clear n0_ n1_ n2_ n3_; clear hb ho11) | ((with_reducible refine gate_dst (N := 14) rfl ?_); refine Kd.R_lit Kd.string _ 9 ?hg (N := 14) ?hd (xs := ([(⟨#[105, 51, 50, 46, 108, 111, 97, 100, 56, 95, 115]⟩ : ByteArray), (⟨#[105, 51, 50, 46, 108, 111, 97, 100, 56, 95, 117]⟩ : ByteArray), (⟨#[105, 51, 50, 46, 108, 111, 97, 100, 49, 54, 95, 115]⟩ : ByteArray), (⟨#[105, 51, 50, 46, 108, 111, 97, 100, 49, 54, 95, 117]⟩ : ByteArray), (⟨#[105, 54, 52, 46, 108, 111, 97, 100, 56, 95, 115]⟩ : ByteArray), (⟨#[105, 54, 52, 46, 108, 111, 97, 100, 56, 95, 117]⟩ : ByteArray), (⟨#[105, 54, 52, 46, 108, 111, 97, 100, 49, 54, 95, 115]⟩ : ByteArray), (⟨#[105, 54, 52, 46, 108, 111, 97, 100, 49, 54, 95, 117]⟩ : ByteArray), (⟨#[105, 54, 52, 46, 108, 111, 97, 100, 51, 50, 95, 115]⟩ : ByteArray), (⟨#[105, 54, 52, 46, 108, 111, 97, 100, 51, 50, 95, 117]⟩ : ByteArray), (⟨#[105, 51, 50, 46, 115, 116, 111, 114, 101]⟩ : ByteArray), (⟨#[105, 54, 52, 46, 115, 116, 111, 114, 101]⟩ : ByteArray)] : List ByteArray)) (inner := [.string (⟨#[105, 51, 50, 46, 108, 111, 97, 100, 56, 95, 115]⟩ : ByteArray), .string (⟨#[105, 51, 50, 46, 108, 111, 97, 100, 56, 95, 117]⟩ : ByteArray), .string (⟨#[105, 51, 50, 46, 108, 111, 97, 100, 49, 54, 95, 115]⟩ : ByteArray), .string (⟨#[105, 51, 50, 46, 108, 111, 97, 100, 49, 54, 95, 117]⟩ : ByteArray), .string (⟨#[105, 54, 52, 46, 108, 111, 97, 100, 56, 95, 115]⟩ : ByteArray), .string (⟨#[105, 54, 52, 46, 108, 111, 97, 100, 56, 95, 117]⟩ : ByteArray), .string (⟨#[105, 54, 52, 46, 108, 111, 97, 100, 49, 54, 95, 115]⟩ : ByteArray), .string (⟨#[105, 54, 52, 46, 108, 111, 97, 100, 49, 54, 95, 117]⟩ : ByteArray), .string (⟨#[105, 54, 52, 46, 108, 111, 97, 100, 51, 50, 95, 115]⟩ : ByteArray), .string (⟨#[105, 54, 52, 46, 108, 111, 97, 100, 51, 50, 95, 117]⟩ : ByteArray), .string (⟨#[105, 51, 50, 46, 115, 116, 111, 114, 101]⟩ : ByteArray), .string (⟨#[105, 54, 52, 46, 115, 116, 111, 114, 101]⟩ : ByteArray)]) (ok := fun _ => True) (okp := fun _ => True) ?hr ?hp (fun _ hk => hk) trivial (Below.refl _ _) (Nat.le_refl _) Q8 ?_; (case hd => rfl); (case hg => rfl); (case hr => first | (go_simp; done) | (go_simp; rfl)); (case hp => exact (Reps.one (show Kd.M Kd.string _ _ _ (⟨#[105, 51, 50, 46, 108, 111, 97, 100, 56, 95, 115]⟩ : ByteArray) [.string (⟨#[105, 51, 50, 46, 108, 111, 97, 100, 56, 95, 115]⟩ : ByteArray)] from rfl) (Reps.one (show Kd.M Kd.string _ _ _ (⟨#[105, 51, 50, 46, 108, 111, 97, 100, 56, 95, 117]⟩ : ByteArray) [.string (⟨#[105, 51, 50, 46, 108, 111, 97, 100, 56, 95, 117]⟩ : ByteArray)] from rfl) (Reps.one (show Kd.M Kd.string _ _ _ (⟨#[105, 51, 50, 46, 108, 111, 97, 100, 49, 54, 95, 115]⟩ : ByteArray) [.string (⟨#[105, 51, 50, 46, 108, 111, 97, 100, 49, 54, 95, 115]⟩ : ByteArray)] from rfl) (Reps.one (show Kd.M Kd.string _ _ _ (⟨#[105, 51, 50, 46, 108, 111, 97, 100, 49, 54, 95, 117]⟩ : ByteArray) [.string (⟨#[105, 51, 50, 46, 108, 111, 97, 100, 49, 54, 95, 117]⟩ : ByteArray)] from rfl) (Reps.one (show Kd.M Kd.string _ _ _ (⟨#[105, 54, 52, 46, 108, 111, 97, 100, 56, 95, 115]⟩ : ByteArray) [.string (⟨#[105, 54, 52, 46, 108, 111, 97, 100, 56, 95, 115]⟩ : ByteArray)] from rfl) (Reps.one (show Kd.M Kd.string _ _ _ (⟨#[105, 54, 52, 46, 108, 111, 97, 100, 56, 95, 117]⟩ : ByteArray) [.string (⟨#[105, 54, 52, 46, 108, 111, 97, 100, 56, 95, 117]⟩ : ByteArray)] from rfl) (Reps.one (show Kd.M Kd.string _ _ _ (⟨#[105, 54, 52, 46, 108, 111, 97, 100, 49, 54, 95, 115]⟩ : ByteArray) [.string (⟨#[105, 54, 52, 46, 108, 111, 97, 100, 49, 54, 95, 115]⟩ : ByteArray)] from rfl) (Reps.one (show Kd.M Kd.string _ _ _ (⟨#[105, 54, 52, 46, 108, 111, 97, 100, 49, 54, 95, 117]⟩ : ByteArray) [.string (⟨#[105, 54, 52, 46, 108, 111, 97, 100, 49, 54, 95, 117]⟩ : ByteArray)] from rfl) (Reps.one (show Kd.M Kd.string _ _ _ (⟨#[105, 54, 52, 46, 108, 111, 97, 100, 51, 50, 95, 115]⟩ : ByteArray) [.string (⟨#[105, 54, 52, 46, 108, 111, 97, 100, 51, 50, 95, 115]⟩ : ByteArray)] from rfl) (Reps.one (show Kd.M Kd.string _ _ _ (⟨#[105, 54, 52, 46, 108, 111, 97, 100, 51, 50, 95, 117]⟩ : ByteArray) [.string (⟨#[105, 54, 52, 46, 108, 111, 97, 100, 51, 50, 95, 117]⟩ : ByteArray)] from rfl) (Reps.one (show Kd.M Kd.string _ _ _ (⟨#[105, 51, 50, 46, 115, 116, 111, 114, 101]⟩ : ByteArray) [.string (⟨#[105, 51, 50, 46, 115, 116, 111, 114, 101]⟩ : ByteArray)] from rfl) (Reps.one (show Kd.M Kd.string _ _ _ (⟨#[105, 54, 52, 46, 115, 116, 111, 114, 101]⟩ : ByteArray) [.string (⟨#[105, 54, 52, 46, 115, 116, 111, 114, 101]⟩ : ByteArray)] from rfl) (Reps.none _ _)))))))))))))); intro v128 w12 ho13 hb hg_ hnew_; clear hg_ hnew_; (first | rw [← Ny127.out] at ho13 | (simp only [Int.reduceToNat] at ho13; rw [← Ny127.out] at ho13)); have n0_ := Aside0.mk (Kd.R_elder' Q36 (Kd.R_base ho13) hb); have n1_ := Aside0.mk (Kd.R_elder' Q42 (Kd.R_base ho13) hb); have n2_ := Aside0.mk (Kd.R_elder' Q56 (Kd.R_base ho13) hb); have n3_ := Aside0.mk (Kd.R_lower (Kd.R_new' (Kd.R_new' (Kd.R_new' ho13 (Kd.R_lt Q36)) (Kd.R_lt Q42)) (Kd.R_lt Q56)) (below_size Q1)); have n4_ := Aside0.mk (below_step Q1 hb); clear HO120; clear HO123; clear HO126; clear HB; have HO120 := n0_; have HO123 := n1_; have HO126 := n2_; have HO129 := n3_; have HB := n4_; clear n0_ n1_ n2_ n3_ n4_; clear hb ho13) | ((with_reducible refine gate_dst (N := 15) rfl ?_); refine Kd.R_lit Kd.string _ 9 ?hg (N := 15) ?hd (xs := ([(⟨#[105, 51, 50, 46, 115, 116, 111, 114, 101, 56]⟩ : ByteArray), (⟨#[105, 51, 50, 46, 115, 116, 111, 114, 101, 49, 54]⟩ : ByteArray), (⟨#[105, 54, 52, 46, 115, 116, 111, 114, 101, 56]⟩ : ByteArray), (⟨#[105, 54, 52, 46, 115, 116, 111, 114, 101, 49, 54]⟩ : ByteArray), (⟨#[105, 54, 52, 46, 115, 116, 111, 114, 101, 51, 50]⟩ : ByteArray), (⟨#[109, 101, 109, 111, 114, 121, 46, 115, 105, 122, 101]⟩ : ByteArray), (⟨#[109, 101, 109, 111, 114, 121, 46, 103, 114, 111, 119]⟩ : ByteArray), (⟨#[105, 51, 50, 46, 99, 111, 110, 115, 116]⟩ : ByteArray), (⟨#[105, 54, 52, 46, 99, 111, 110, 115, 116]⟩ : ByteArray)] : List ByteArray)) (inner := [.string (⟨#[105, 51, 50, 46, 115, 116, 111, 114, 101, 56]⟩ : ByteArray), .string (⟨#[105, 51, 50, 46, 115, 116, 111, 114, 101, 49, 54]⟩ : ByteArray), .string (⟨#[105, 54, 52, 46, 115, 116, 111, 114, 101, 56]⟩ : ByteArray), .string (⟨#[105, 54, 52, 46, 115, 116, 111, 114, 101, 49, 54]⟩ : ByteArray), .string (⟨#[105, 54, 52, 46, 115, 116, 111, 114, 101, 51, 50]⟩ : ByteArray), .string (⟨#[109, 101, 109, 111, 114, 121, 46, 115, 105, 122, 101]⟩ : ByteArray), .string (⟨#[109, 101, 109, 111, 114, 121, 46, 103, 114, 111, 119]⟩ : ByteArray), .string (⟨#[105, 51, 50, 46, 99, 111, 110, 115, 116]⟩ : ByteArray), .string (⟨#[105, 54, 52, 46, 99, 111, 110, 115, 116]⟩ : ByteArray)]) (ok := fun _ => True) (okp := fun _ => True) ?hr ?hp (fun _ hk => hk) trivial (Below.refl _ _) (Nat.le_refl _) Q8 ?_; (case hd => rfl); (case hg => rfl); (case hr => first | (go_simp; done) | (go_simp; rfl)); (case hp => exact (Reps.one (show Kd.M Kd.string _ _ _ (⟨#[105, 51, 50, 46, 115, 116, 111, 114, 101, 56]⟩ : ByteArray) [.string (⟨#[105, 51, 50, 46, 115, 116, 111, 114, 101, 56]⟩ : ByteArray)] from rfl) (Reps.one (show Kd.M Kd.string _ _ _ (⟨#[105, 51, 50, 46, 115, 116, 111, 114, 101, 49, 54]⟩ : ByteArray) [.string (⟨#[105, 51, 50, 46, 115, 116, 111, 114, 101, 49, 54]⟩ : ByteArray)] from rfl) (Reps.one (show Kd.M Kd.string _ _ _ (⟨#[105, 54, 52, 46, 115, 116, 111, 114, 101, 56]⟩ : ByteArray) [.string (⟨#[105, 54, 52, 46, 115, 116, 111, 114, 101, 56]⟩ : ByteArray)] from rfl) (Reps.one (show Kd.M Kd.string _ _ _ (⟨#[105, 54, 52, 46, 115, 116, 111, 114, 101, 49, 54]⟩ : ByteArray) [.string (⟨#[105, 54, 52, 46, 115, 116, 111, 114, 101, 49, 54]⟩ : ByteArray)] from rfl) (Reps.one (show Kd.M Kd.string _ _ _ (⟨#[105, 54, 52, 46, 115, 116, 111, 114, 101, 51, 50]⟩ : ByteArray) [.string (⟨#[105, 54, 52, 46, 115, 116, 111, 114, 101, 51, 50]⟩ : ByteArray)] from rfl) (Reps.one (show Kd.M Kd.string _ _ _ (⟨#[109, 101, 109, 111, 114, 121, 46, 115, 105, 122, 101]⟩ : ByteArray) [.string (⟨#[109, 101, 109, 111, 114, 121, 46, 115, 105, 122, 101]⟩ : ByteArray)] from rfl) (Reps.one (show Kd.M Kd.string _ _ _ (⟨#[109, 101, 109, 111, 114, 121, 46, 103, 114, 111, 119]⟩ : ByteArray) [.string (⟨#[109, 101, 109, 111, 114, 121, 46, 103, 114, 111, 119]⟩ : ByteArray)] from rfl) (Reps.one (show Kd.M Kd.string _ _ _ (⟨#[105, 51, 50, 46, 99, 111, 110, 115, 116]⟩ : ByteArray) [.string (⟨#[105, 51, 50, 46, 99, 111, 110, 115, 116]⟩ : ByteArray)] from rfl) (Reps.one (show Kd.M Kd.string _ _ _ (⟨#[105, 54, 52, 46, 99, 111, 110, 115, 116]⟩ : ByteArray) [.string (⟨#[105, 54, 52, 46, 99, 111, 110, 115, 116]⟩ : ByteArray)] from rfl) (Reps.none _ _))))))))))); intro v131 w14 ho15 hb hg_ hnew_; clear hg_ hnew_; (first | rw [← Ny130.out] at ho15 | (simp only [Int.reduceToNat] at ho15; rw [← Ny130.out] at ho15)); have n0_ := Aside0.mk (Kd.R_elder' Q36 (Kd.R_base ho15) hb); have n1_ := Aside0.mk (Kd.R_elder' Q42 (Kd.R_base ho15) hb); have n2_ := Aside0.mk (Kd.R_elder' Q56 (Kd.R_base ho15) hb); have n3_ := Aside0.mk (Kd.R_elder' Q80 (Kd.R_base ho15) hb); have n4_ := Aside0.mk (Kd.R_lower (Kd.R_new' (Kd.R_new' (Kd.R_new' (Kd.R_new' ho15 (Kd.R_lt Q36)) (Kd.R_lt Q42)) (Kd.R_lt Q56)) (Kd.R_lt Q80)) (below_size Q1)); have n5_ := Aside0.mk (below_step Q1 hb); clear HO120; clear HO123; clear HO126; clear HO129; clear HB; have HO120 := n0_; have HO123 := n1_; have HO126 := n2_; have HO129 := n3_; have HO132 := n4_; have HB := n5_; clear n0_ n1_ n2_ n3_ n4_ n5_; clear hb ho15; obtain ⟨Ao16, co16, eo16⟩ := Kd.R_slice HO120.out; subst eo16; have p133 : 0 ≤ ((ji3) : Int) := of_decide_eq_true Q4; have q133 : (ji3) < (y118.length : Int) := of_decide_eq_true Q4; obtain ⟨ad133, e133, hx133_0⟩ := Kd.at_string (Kd.R_reads' HO120.out).2.2 (ji3) p133 q133; cases e133; replace p133 := eq_true p133; replace q133 := eq_true q133))
    go_ret
    exact ⟨by first | rfl | (simp [errW_none, errW_some] <;> rfl) | (simp only [← hji3]; first | rfl | (simp [errW_none, errW_some] <;> rfl)) | (simp [*, errW_none, errW_some] <;> rfl) | (simp [hy_ne]; done), Q1⟩
   rw [if_neg c5] at H
   exact absurd H Q8
  rw [if_neg c4] at H
  exact absurd H Q8
 rw [if_neg c2] at H
 have c2b0 : decide ((wrap64 (a0)) ≤ 4) = false := decide_eq_false c2
 clear c2
 have HC17 := Aside0.mk H
 clear H
 go_enter Tryz.func66, Tryz.ntmps66
 go_upto_region 9 with (first | ((with_reducible refine gate_dst (N := 11) rfl ?_); refine Kd.R_lit Kd.string _ 9 ?hg (N := 11) ?hd (xs := ([(⟨#[117, 110, 114, 101, 97, 99, 104, 97, 98, 108, 101]⟩ : ByteArray), (⟨#[110, 111, 112]⟩ : ByteArray), (⟨#[98, 108, 111, 99, 107]⟩ : ByteArray), (⟨#[108, 111, 111, 112]⟩ : ByteArray), (⟨#[105, 102]⟩ : ByteArray)] : List ByteArray)) (inner := [.string (⟨#[117, 110, 114, 101, 97, 99, 104, 97, 98, 108, 101]⟩ : ByteArray), .string (⟨#[110, 111, 112]⟩ : ByteArray), .string (⟨#[98, 108, 111, 99, 107]⟩ : ByteArray), .string (⟨#[108, 111, 111, 112]⟩ : ByteArray), .string (⟨#[105, 102]⟩ : ByteArray)]) (ok := fun _ => True) (okp := fun _ => True) ?hr ?hp (fun _ hk => hk) trivial (Below.refl _ _) (Nat.le_refl _) Q8 ?_; (case hd => rfl); (case hg => rfl); (case hr => first | (go_simp; done) | (go_simp; rfl)); (case hp => exact (Reps.one (show Kd.M Kd.string _ _ _ (⟨#[117, 110, 114, 101, 97, 99, 104, 97, 98, 108, 101]⟩ : ByteArray) [.string (⟨#[117, 110, 114, 101, 97, 99, 104, 97, 98, 108, 101]⟩ : ByteArray)] from rfl) (Reps.one (show Kd.M Kd.string _ _ _ (⟨#[110, 111, 112]⟩ : ByteArray) [.string (⟨#[110, 111, 112]⟩ : ByteArray)] from rfl) (Reps.one (show Kd.M Kd.string _ _ _ (⟨#[98, 108, 111, 99, 107]⟩ : ByteArray) [.string (⟨#[98, 108, 111, 99, 107]⟩ : ByteArray)] from rfl) (Reps.one (show Kd.M Kd.string _ _ _ (⟨#[108, 111, 111, 112]⟩ : ByteArray) [.string (⟨#[108, 111, 111, 112]⟩ : ByteArray)] from rfl) (Reps.one (show Kd.M Kd.string _ _ _ (⟨#[105, 102]⟩ : ByteArray) [.string (⟨#[105, 102]⟩ : ByteArray)] from rfl) (Reps.none _ _))))))); intro v119 w18 ho19 hb hg_ hnew_; clear hg_ hnew_; (first | rw [← Ny118.out] at ho19 | (simp only [Int.reduceToNat] at ho19; rw [← Ny118.out] at ho19)); have n0_ := Aside0.mk (Kd.R_lower ho19 (below_size Q1)); have n1_ := Aside0.mk (below_step Q1 hb); clear HB; have HO120 := n0_; have HB := n1_; clear n0_ n1_; clear hb ho19) | ((with_reducible refine gate_dst (N := 12) rfl ?_); refine Kd.R_lit Kd.string _ 9 ?hg (N := 12) ?hd (xs := ([(⟨#[98, 114]⟩ : ByteArray), (⟨#[98, 114, 95, 105, 102]⟩ : ByteArray), (⟨#[98, 114, 95, 116, 97, 98, 108, 101]⟩ : ByteArray), (⟨#[114, 101, 116, 117, 114, 110]⟩ : ByteArray), (⟨#[99, 97, 108, 108]⟩ : ByteArray), (⟨#[99, 97, 108, 108, 95, 105, 110, 100, 105, 114, 101, 99, 116]⟩ : ByteArray)] : List ByteArray)) (inner := [.string (⟨#[98, 114]⟩ : ByteArray), .string (⟨#[98, 114, 95, 105, 102]⟩ : ByteArray), .string (⟨#[98, 114, 95, 116, 97, 98, 108, 101]⟩ : ByteArray), .string (⟨#[114, 101, 116, 117, 114, 110]⟩ : ByteArray), .string (⟨#[99, 97, 108, 108]⟩ : ByteArray), .string (⟨#[99, 97, 108, 108, 95, 105, 110, 100, 105, 114, 101, 99, 116]⟩ : ByteArray)]) (ok := fun _ => True) (okp := fun _ => True) ?hr ?hp (fun _ hk => hk) trivial (Below.refl _ _) (Nat.le_refl _) Q8 ?_; (case hd => rfl); (case hg => rfl); (case hr => first | (go_simp; done) | (go_simp; rfl)); (case hp => exact (Reps.one (show Kd.M Kd.string _ _ _ (⟨#[98, 114]⟩ : ByteArray) [.string (⟨#[98, 114]⟩ : ByteArray)] from rfl) (Reps.one (show Kd.M Kd.string _ _ _ (⟨#[98, 114, 95, 105, 102]⟩ : ByteArray) [.string (⟨#[98, 114, 95, 105, 102]⟩ : ByteArray)] from rfl) (Reps.one (show Kd.M Kd.string _ _ _ (⟨#[98, 114, 95, 116, 97, 98, 108, 101]⟩ : ByteArray) [.string (⟨#[98, 114, 95, 116, 97, 98, 108, 101]⟩ : ByteArray)] from rfl) (Reps.one (show Kd.M Kd.string _ _ _ (⟨#[114, 101, 116, 117, 114, 110]⟩ : ByteArray) [.string (⟨#[114, 101, 116, 117, 114, 110]⟩ : ByteArray)] from rfl) (Reps.one (show Kd.M Kd.string _ _ _ (⟨#[99, 97, 108, 108]⟩ : ByteArray) [.string (⟨#[99, 97, 108, 108]⟩ : ByteArray)] from rfl) (Reps.one (show Kd.M Kd.string _ _ _ (⟨#[99, 97, 108, 108, 95, 105, 110, 100, 105, 114, 101, 99, 116]⟩ : ByteArray) [.string (⟨#[99, 97, 108, 108, 95, 105, 110, 100, 105, 114, 101, 99, 116]⟩ : ByteArray)] from rfl) (Reps.none _ _)))))))); intro v122 w20 ho21 hb hg_ hnew_; clear hg_ hnew_; (first | rw [← Ny121.out] at ho21 | (simp only [Int.reduceToNat] at ho21; rw [← Ny121.out] at ho21)); have n0_ := Aside0.mk (Kd.R_elder' Q36 (Kd.R_base ho21) hb); have n1_ := Aside0.mk (Kd.R_lower (Kd.R_new' ho21 (Kd.R_lt Q36)) (below_size Q1)); have n2_ := Aside0.mk (below_step Q1 hb); clear HO120; clear HB; have HO120 := n0_; have HO123 := n1_; have HB := n2_; clear n0_ n1_ n2_; clear hb ho21) | ((with_reducible refine gate_dst (N := 13) rfl ?_); refine Kd.R_lit Kd.string _ 9 ?hg (N := 13) ?hd (xs := ([(⟨#[108, 111, 99, 97, 108, 46, 103, 101, 116]⟩ : ByteArray), (⟨#[108, 111, 99, 97, 108, 46, 115, 101, 116]⟩ : ByteArray), (⟨#[108, 111, 99, 97, 108, 46, 116, 101, 101]⟩ : ByteArray), (⟨#[103, 108, 111, 98, 97, 108, 46, 103, 101, 116]⟩ : ByteArray), (⟨#[103, 108, 111, 98, 97, 108, 46, 115, 101, 116]⟩ : ByteArray)] : List ByteArray)) (inner := [.string (⟨#[108, 111, 99, 97, 108, 46, 103, 101, 116]⟩ : ByteArray), .string (⟨#[108, 111, 99, 97, 108, 46, 115, 101, 116]⟩ : ByteArray), .string (⟨#[108, 111, 99, 97, 108, 46, 116, 101, 101]⟩ : ByteArray), .string (⟨#[103, 108, 111, 98, 97, 108, 46, 103, 101, 116]⟩ : ByteArray), .string (⟨#[103, 108, 111, 98, 97, 108, 46, 115, 101, 116]⟩ : ByteArray)]) (ok := fun _ => True) (okp := fun _ => True) ?hr ?hp (fun _ hk => hk) trivial (Below.refl _ _) (Nat.le_refl _) Q8 ?_; (case hd => rfl); (case hg => rfl); (case hr => first | (go_simp; done) | (go_simp; rfl)); (case hp => exact (Reps.one (show Kd.M Kd.string _ _ _ (⟨#[108, 111, 99, 97, 108, 46, 103, 101, 116]⟩ : ByteArray) [.string (⟨#[108, 111, 99, 97, 108, 46, 103, 101, 116]⟩ : ByteArray)] from rfl) (Reps.one (show Kd.M Kd.string _ _ _ (⟨#[108, 111, 99, 97, 108, 46, 115, 101, 116]⟩ : ByteArray) [.string (⟨#[108, 111, 99, 97, 108, 46, 115, 101, 116]⟩ : ByteArray)] from rfl) (Reps.one (show Kd.M Kd.string _ _ _ (⟨#[108, 111, 99, 97, 108, 46, 116, 101, 101]⟩ : ByteArray) [.string (⟨#[108, 111, 99, 97, 108, 46, 116, 101, 101]⟩ : ByteArray)] from rfl) (Reps.one (show Kd.M Kd.string _ _ _ (⟨#[103, 108, 111, 98, 97, 108, 46, 103, 101, 116]⟩ : ByteArray) [.string (⟨#[103, 108, 111, 98, 97, 108, 46, 103, 101, 116]⟩ : ByteArray)] from rfl) (Reps.one (show Kd.M Kd.string _ _ _ (⟨#[103, 108, 111, 98, 97, 108, 46, 115, 101, 116]⟩ : ByteArray) [.string (⟨#[103, 108, 111, 98, 97, 108, 46, 115, 101, 116]⟩ : ByteArray)] from rfl) (Reps.none _ _))))))); intro v125 w22 ho23 hb hg_ hnew_; clear hg_ hnew_; (first | rw [← Ny124.out] at ho23 | (simp only [Int.reduceToNat] at ho23; rw [← Ny124.out] at ho23)); have n0_ := Aside0.mk (Kd.R_elder' Q36 (Kd.R_base ho23) hb); have n1_ := Aside0.mk (Kd.R_elder' Q42 (Kd.R_base ho23) hb); have n2_ := Aside0.mk (Kd.R_lower (Kd.R_new' (Kd.R_new' ho23 (Kd.R_lt Q36)) (Kd.R_lt Q42)) (below_size Q1)); have n3_ := Aside0.mk (below_step Q1 hb); clear HO120; clear HO123; clear HB; have HO120 := n0_; have HO123 := n1_; have HO126 := n2_; have HB := n3_; clear n0_ n1_ n2_ n3_; clear hb ho23) | ((with_reducible refine gate_dst (N := 14) rfl ?_); refine Kd.R_lit Kd.string _ 9 ?hg (N := 14) ?hd (xs := ([(⟨#[105, 51, 50, 46, 108, 111, 97, 100, 56, 95, 115]⟩ : ByteArray), (⟨#[105, 51, 50, 46, 108, 111, 97, 100, 56, 95, 117]⟩ : ByteArray), (⟨#[105, 51, 50, 46, 108, 111, 97, 100, 49, 54, 95, 115]⟩ : ByteArray), (⟨#[105, 51, 50, 46, 108, 111, 97, 100, 49, 54, 95, 117]⟩ : ByteArray), (⟨#[105, 54, 52, 46, 108, 111, 97, 100, 56, 95, 115]⟩ : ByteArray), (⟨#[105, 54, 52, 46, 108, 111, 97, 100, 56, 95, 117]⟩ : ByteArray), (⟨#[105, 54, 52, 46, 108, 111, 97, 100, 49, 54, 95, 115]⟩ : ByteArray), (⟨#[105, 54, 52, 46, 108, 111, 97, 100, 49, 54, 95, 117]⟩ : ByteArray), (⟨#[105, 54, 52, 46, 108, 111, 97, 100, 51, 50, 95, 115]⟩ : ByteArray), (⟨#[105, 54, 52, 46, 108, 111, 97, 100, 51, 50, 95, 117]⟩ : ByteArray), (⟨#[105, 51, 50, 46, 115, 116, 111, 114, 101]⟩ : ByteArray), (⟨#[105, 54, 52, 46, 115, 116, 111, 114, 101]⟩ : ByteArray)] : List ByteArray)) (inner := [.string (⟨#[105, 51, 50, 46, 108, 111, 97, 100, 56, 95, 115]⟩ : ByteArray), .string (⟨#[105, 51, 50, 46, 108, 111, 97, 100, 56, 95, 117]⟩ : ByteArray), .string (⟨#[105, 51, 50, 46, 108, 111, 97, 100, 49, 54, 95, 115]⟩ : ByteArray), .string (⟨#[105, 51, 50, 46, 108, 111, 97, 100, 49, 54, 95, 117]⟩ : ByteArray), .string (⟨#[105, 54, 52, 46, 108, 111, 97, 100, 56, 95, 115]⟩ : ByteArray), .string (⟨#[105, 54, 52, 46, 108, 111, 97, 100, 56, 95, 117]⟩ : ByteArray), .string (⟨#[105, 54, 52, 46, 108, 111, 97, 100, 49, 54, 95, 115]⟩ : ByteArray), .string (⟨#[105, 54, 52, 46, 108, 111, 97, 100, 49, 54, 95, 117]⟩ : ByteArray), .string (⟨#[105, 54, 52, 46, 108, 111, 97, 100, 51, 50, 95, 115]⟩ : ByteArray), .string (⟨#[105, 54, 52, 46, 108, 111, 97, 100, 51, 50, 95, 117]⟩ : ByteArray), .string (⟨#[105, 51, 50, 46, 115, 116, 111, 114, 101]⟩ : ByteArray), .string (⟨#[105, 54, 52, 46, 115, 116, 111, 114, 101]⟩ : ByteArray)]) (ok := fun _ => True) (okp := fun _ => True) ?hr ?hp (fun _ hk => hk) trivial (Below.refl _ _) (Nat.le_refl _) Q8 ?_; (case hd => rfl); (case hg => rfl); (case hr => first | (go_simp; done) | (go_simp; rfl)); (case hp => exact (Reps.one (show Kd.M Kd.string _ _ _ (⟨#[105, 51, 50, 46, 108, 111, 97, 100, 56, 95, 115]⟩ : ByteArray) [.string (⟨#[105, 51, 50, 46, 108, 111, 97, 100, 56, 95, 115]⟩ : ByteArray)] from rfl) (Reps.one (show Kd.M Kd.string _ _ _ (⟨#[105, 51, 50, 46, 108, 111, 97, 100, 56, 95, 117]⟩ : ByteArray) [.string (⟨#[105, 51, 50, 46, 108, 111, 97, 100, 56, 95, 117]⟩ : ByteArray)] from rfl) (Reps.one (show Kd.M Kd.string _ _ _ (⟨#[105, 51, 50, 46, 108, 111, 97, 100, 49, 54, 95, 115]⟩ : ByteArray) [.string (⟨#[105, 51, 50, 46, 108, 111, 97, 100, 49, 54, 95, 115]⟩ : ByteArray)] from rfl) (Reps.one (show Kd.M Kd.string _ _ _ (⟨#[105, 51, 50, 46, 108, 111, 97, 100, 49, 54, 95, 117]⟩ : ByteArray) [.string (⟨#[105, 51, 50, 46, 108, 111, 97, 100, 49, 54, 95, 117]⟩ : ByteArray)] from rfl) (Reps.one (show Kd.M Kd.string _ _ _ (⟨#[105, 54, 52, 46, 108, 111, 97, 100, 56, 95, 115]⟩ : ByteArray) [.string (⟨#[105, 54, 52, 46, 108, 111, 97, 100, 56, 95, 115]⟩ : ByteArray)] from rfl) (Reps.one (show Kd.M Kd.string _ _ _ (⟨#[105, 54, 52, 46, 108, 111, 97, 100, 56, 95, 117]⟩ : ByteArray) [.string (⟨#[105, 54, 52, 46, 108, 111, 97, 100, 56, 95, 117]⟩ : ByteArray)] from rfl) (Reps.one (show Kd.M Kd.string _ _ _ (⟨#[105, 54, 52, 46, 108, 111, 97, 100, 49, 54, 95, 115]⟩ : ByteArray) [.string (⟨#[105, 54, 52, 46, 108, 111, 97, 100, 49, 54, 95, 115]⟩ : ByteArray)] from rfl) (Reps.one (show Kd.M Kd.string _ _ _ (⟨#[105, 54, 52, 46, 108, 111, 97, 100, 49, 54, 95, 117]⟩ : ByteArray) [.string (⟨#[105, 54, 52, 46, 108, 111, 97, 100, 49, 54, 95, 117]⟩ : ByteArray)] from rfl) (Reps.one (show Kd.M Kd.string _ _ _ (⟨#[105, 54, 52, 46, 108, 111, 97, 100, 51, 50, 95, 115]⟩ : ByteArray) [.string (⟨#[105, 54, 52, 46, 108, 111, 97, 100, 51, 50, 95, 115]⟩ : ByteArray)] from rfl) (Reps.one (show Kd.M Kd.string _ _ _ (⟨#[105, 54, 52, 46, 108, 111, 97, 100, 51, 50, 95, 117]⟩ : ByteArray) [.string (⟨#[105, 54, 52, 46, 108, 111, 97, 100, 51, 50, 95, 117]⟩ : ByteArray)] from rfl) (Reps.one (show Kd.M Kd.string _ _ _ (⟨#[105, 51, 50, 46, 115, 116, 111, 114, 101]⟩ : ByteArray) [.string (⟨#[105, 51, 50, 46, 115, 116, 111, 114, 101]⟩ : ByteArray)] from rfl) (Reps.one (show Kd.M Kd.string _ _ _ (⟨#[105, 54, 52, 46, 115, 116, 111, 114, 101]⟩ : ByteArray) [.string (⟨#[105, 54, 52, 46, 115, 116, 111, 114, 101]⟩ : ByteArray)] from rfl) (Reps.none _ _)))))))))))))); intro v128 w24 ho25 hb hg_ hnew_; clear hg_ hnew_; (first | rw [← Ny127.out] at ho25 | (simp only [Int.reduceToNat] at ho25; rw [← Ny127.out] at ho25)); have n0_ := Aside0.mk (Kd.R_elder' Q36 (Kd.R_base ho25) hb); have n1_ := Aside0.mk (Kd.R_elder' Q42 (Kd.R_base ho25) hb); have n2_ := Aside0.mk (Kd.R_elder' Q56 (Kd.R_base ho25) hb); have n3_ := Aside0.mk (Kd.R_lower (Kd.R_new' (Kd.R_new' (Kd.R_new' ho25 (Kd.R_lt Q36)) (Kd.R_lt Q42)) (Kd.R_lt Q56)) (below_size Q1)); have n4_ := Aside0.mk (below_step Q1 hb); clear HO120; clear HO123; clear HO126; clear HB; have HO120 := n0_; have HO123 := n1_; have HO126 := n2_; have HO129 := n3_; have HB := n4_; clear n0_ n1_ n2_ n3_ n4_; clear hb ho25) | ((with_reducible refine gate_dst (N := 15) rfl ?_); refine Kd.R_lit Kd.string _ 9 ?hg (N := 15) ?hd (xs := ([(⟨#[105, 51, 50, 46, 115, 116, 111, 114, 101, 56]⟩ : ByteArray), (⟨#[105, 51, 50, 46, 115, 116, 111, 114, 101, 49, 54]⟩ : ByteArray), (⟨#[105, 54, 52, 46, 115, 116, 111, 114, 101, 56]⟩ : ByteArray), (⟨#[105, 54, 52, 46, 115, 116, 111, 114, 101, 49, 54]⟩ : ByteArray), (⟨#[105, 54, 52, 46, 115, 116, 111, 114, 101, 51, 50]⟩ : ByteArray), (⟨#[109, 101, 109, 111, 114, 121, 46, 115, 105, 122, 101]⟩ : ByteArray), (⟨#[109, 101, 109, 111, 114, 121, 46, 103, 114, 111, 119]⟩ : ByteArray), (⟨#[105, 51, 50, 46, 99, 111, 110, 115, 116]⟩ : ByteArray), (⟨#[105, 54, 52, 46, 99, 111, 110, 115, 116]⟩ : ByteArray)] : List ByteArray)) (inner := [.string (⟨#[105, 51, 50, 46, 115, 116, 111, 114, 101, 56]⟩ : ByteArray), .string (⟨#[105, 51, 50, 46, 115, 116, 111, 114, 101, 49, 54]⟩ : ByteArray), .string (⟨#[105, 54, 52, 46, 115, 116, 111, 114, 101, 56]⟩ : ByteArray), .string (⟨#[105, 54, 52, 46, 115, 116, 111, 114, 101, 49, 54]⟩ : ByteArray), .string (⟨#[105, 54, 52, 46, 115, 116, 111, 114, 101, 51, 50]⟩ : ByteArray), .string (⟨#[109, 101, 109, 111, 114, 121, 46, 115, 105, 122, 101]⟩ : ByteArray), .string (⟨#[109, 101, 109, 111, 114, 121, 46, 103, 114, 111, 119]⟩ : ByteArray), .string (⟨#[105, 51, 50, 46, 99, 111, 110, 115, 116]⟩ : ByteArray), .string (⟨#[105, 54, 52, 46, 99, 111, 110, 115, 116]⟩ : ByteArray)]) (ok := fun _ => True) (okp := fun _ => True) ?hr ?hp (fun _ hk => hk) trivial (Below.refl _ _) (Nat.le_refl _) Q8 ?_; (case hd => rfl); (case hg => rfl); (case hr => first | (go_simp; done) | (go_simp; rfl)); (case hp => exact (Reps.one (show Kd.M Kd.string _ _ _ (⟨#[105, 51, 50, 46, 115, 116, 111, 114, 101, 56]⟩ : ByteArray) [.string (⟨#[105, 51, 50, 46, 115, 116, 111, 114, 101, 56]⟩ : ByteArray)] from rfl) (Reps.one (show Kd.M Kd.string _ _ _ (⟨#[105, 51, 50, 46, 115, 116, 111, 114, 101, 49, 54]⟩ : ByteArray) [.string (⟨#[105, 51, 50, 46, 115, 116, 111, 114, 101, 49, 54]⟩ : ByteArray)] from rfl) (Reps.one (show Kd.M Kd.string _ _ _ (⟨#[105, 54, 52, 46, 115, 116, 111, 114, 101, 56]⟩ : ByteArray) [.string (⟨#[105, 54, 52, 46, 115, 116, 111, 114, 101, 56]⟩ : ByteArray)] from rfl) (Reps.one (show Kd.M Kd.string _ _ _ (⟨#[105, 54, 52, 46, 115, 116, 111, 114, 101, 49, 54]⟩ : ByteArray) [.string (⟨#[105, 54, 52, 46, 115, 116, 111, 114, 101, 49, 54]⟩ : ByteArray)] from rfl) (Reps.one (show Kd.M Kd.string _ _ _ (⟨#[105, 54, 52, 46, 115, 116, 111, 114, 101, 51, 50]⟩ : ByteArray) [.string (⟨#[105, 54, 52, 46, 115, 116, 111, 114, 101, 51, 50]⟩ : ByteArray)] from rfl) (Reps.one (show Kd.M Kd.string _ _ _ (⟨#[109, 101, 109, 111, 114, 121, 46, 115, 105, 122, 101]⟩ : ByteArray) [.string (⟨#[109, 101, 109, 111, 114, 121, 46, 115, 105, 122, 101]⟩ : ByteArray)] from rfl) (Reps.one (show Kd.M Kd.string _ _ _ (⟨#[109, 101, 109, 111, 114, 121, 46, 103, 114, 111, 119]⟩ : ByteArray) [.string (⟨#[109, 101, 109, 111, 114, 121, 46, 103, 114, 111, 119]⟩ : ByteArray)] from rfl) (Reps.one (show Kd.M Kd.string _ _ _ (⟨#[105, 51, 50, 46, 99, 111, 110, 115, 116]⟩ : ByteArray) [.string (⟨#[105, 51, 50, 46, 99, 111, 110, 115, 116]⟩ : ByteArray)] from rfl) (Reps.one (show Kd.M Kd.string _ _ _ (⟨#[105, 54, 52, 46, 99, 111, 110, 115, 116]⟩ : ByteArray) [.string (⟨#[105, 54, 52, 46, 99, 111, 110, 115, 116]⟩ : ByteArray)] from rfl) (Reps.none _ _))))))))))); intro v131 w26 ho27 hb hg_ hnew_; clear hg_ hnew_; (first | rw [← Ny130.out] at ho27 | (simp only [Int.reduceToNat] at ho27; rw [← Ny130.out] at ho27)); have n0_ := Aside0.mk (Kd.R_elder' Q36 (Kd.R_base ho27) hb); have n1_ := Aside0.mk (Kd.R_elder' Q42 (Kd.R_base ho27) hb); have n2_ := Aside0.mk (Kd.R_elder' Q56 (Kd.R_base ho27) hb); have n3_ := Aside0.mk (Kd.R_elder' Q80 (Kd.R_base ho27) hb); have n4_ := Aside0.mk (Kd.R_lower (Kd.R_new' (Kd.R_new' (Kd.R_new' (Kd.R_new' ho27 (Kd.R_lt Q36)) (Kd.R_lt Q42)) (Kd.R_lt Q56)) (Kd.R_lt Q80)) (below_size Q1)); have n5_ := Aside0.mk (below_step Q1 hb); clear HO120; clear HO123; clear HO126; clear HO129; clear HB; have HO120 := n0_; have HO123 := n1_; have HO126 := n2_; have HO129 := n3_; have HO132 := n4_; have HB := n5_; clear n0_ n1_ n2_ n3_ n4_ n5_; clear hb ho27))
 (try simp only [Act.put, List.setIfInBounds_toArray, List.set_cons_zero, List.set_cons_succ])
 go_cut [25] (fun v25 wc => ∃ (kq : Nat) (x25_16 : Bool), v25 = .bool x25_16 ∧ Aside0 (mandrelref04_Name.j0 kq a0 y121 y124 y127 y130 (wrap64 (a0)) x25_16 = some r) ∧ Aside0 (kq ≤ k) ∧ Aside0 (Kd.R Kd.string 9 wc w.heap.size (fun k_ => some k_ ≠ (v125 : Value).ownBlock ∧ some k_ ≠ (v128 : Value).ownBlock ∧ some k_ ≠ (v131 : Value).ownBlock) v122 y121) ∧ Aside0 (Kd.R Kd.string 9 wc w.heap.size (fun k_ => some k_ ≠ (v122 : Value).ownBlock ∧ some k_ ≠ (v128 : Value).ownBlock ∧ some k_ ≠ (v131 : Value).ownBlock) v125 y124) ∧ Aside0 (Kd.R Kd.string 9 wc w.heap.size (fun k_ => some k_ ≠ (v122 : Value).ownBlock ∧ some k_ ≠ (v125 : Value).ownBlock ∧ some k_ ≠ (v131 : Value).ownBlock) v128 y127) ∧ Aside0 (Kd.R Kd.string 9 wc w.heap.size (fun k_ => some k_ ≠ (v122 : Value).ownBlock ∧ some k_ ≠ (v125 : Value).ownBlock ∧ some k_ ≠ (v128 : Value).ownBlock) v131 y130) ∧ Aside0 (Below w.heap.size w wc))
 case first =>
  have H := HC17.out
  clear HC17
  by_cases c28 : (wrap64 (a0)) ≥ 12
  ·rw [if_pos c28] at H
   have c28b0 : decide (12 ≤ (wrap64 (a0))) = true := decide_eq_true c28
   clear c28
   (first | rw [c28b0] | (simp only [i64_w, i32_w]; rw [c28b0]) | skip)
   have H' := Aside0.mk H
   clear H
   go_wp2
   go_meet
   case rel => exact ⟨_, (decide ((wrap64 (a0)) ≤ 17)), Q3, H', ⟨Q15⟩, ⟨Q131⟩, ⟨Q132⟩, ⟨Q133⟩, ⟨Q134⟩, ⟨Q1⟩⟩
  rw [if_neg c28] at H
  have c28b0 : decide (12 ≤ (wrap64 (a0))) = false := decide_eq_false c28
  clear c28
  (first | rw [c28b0] | (simp only [i64_w, i32_w]; rw [c28b0]) | skip)
  have H' := Aside0.mk H
  clear H
  go_wp2
  go_meet
  case rel => exact ⟨_, (false), Q3, H', ⟨Q15⟩, ⟨Q131⟩, ⟨Q132⟩, ⟨Q133⟩, ⟨Q134⟩, ⟨Q1⟩⟩
 case rest =>
  clear HC17
  try clear q1
  try clear hx1
  try clear c2
  try clear c2b0
  try clear q13
  try clear hx13
  try clear hx133_0
  try clear q133
  obtain ⟨kq, x25_16, rfl, HA, HJ16, HO_4, HO_5, HO_6, HO_7, HB⟩ := hcut
  cases kq with
  | zero => exact absurd HA.out (by simp [mandrelref04_Name.j0])
  | succ kj16 =>
   have H := HA.out
   clear HA
   simp only [mandrelref04_Name.j0] at H
   by_cases c29 : x25_16 = true
   ·subst c29
    have H1 : (if 0 ≤ (wrap64 ((wrap64 (a0)) - 12)) then (if (wrap64 ((wrap64 (a0)) - 12)) < (y121.length : Int) then (some (rdOf ByteArray.empty y121 (wrap64 ((wrap64 (a0)) - 12)))) else (none)) else (none)) = some r := Q14
    clear H
    have H := H1
    clear H1
    obtain ⟨ji30, hji30⟩ : ∃ j_ : Int, (wrap64 ((wrap64 (a0)) - 12)) = j_ := ⟨_, rfl⟩
    replace H : (if 0 ≤ (ji30) then (if (ji30) < (y121.length : Int) then (some (rdOf ByteArray.empty y121 (ji30))) else (none)) else (none)) = some r := Q135
    have hji30w : (IntKind.i64.wrap ((wrap64 (a0)) - 12)) = ji30 := (i64_w _).trans hji30
    by_cases c31 : 0 ≤ (ji30)
    ·rw [if_pos c31] at H
     have c31b0 : decide (0 ≤ (ji30)) = true := decide_eq_true c31
     clear c31
     by_cases c32 : (ji30) < (y121.length : Int)
     ·rw [if_pos c32] at H
      have c32b0 : decide ((ji30) < (y121.length : Int)) = true := decide_eq_true c32
      clear c32
      obtain rfl := Option.some.inj H
      obtain ⟨Ao33, co33, eo33⟩ := Kd.R_slice HO_4.out
      subst eo33
      have p134 : 0 ≤ ((ji30) : Int) := of_decide_eq_true Q4
      have q134 : (ji30) < (y121.length : Int) := of_decide_eq_true Q4
      obtain ⟨ad134, e134, hx134_0⟩ := Kd.at_string (Kd.R_reads' HO_4.out).2.2 (ji30) p134 q134
      cases e134
      replace p134 := eq_true p134
      replace q134 := eq_true q134
      go_wp2
      go_ret
      exact ⟨by first | rfl | (simp [errW_none, errW_some] <;> rfl) | (simp only [← hji30]; first | rfl | (simp [errW_none, errW_some] <;> rfl)) | (simp [*, errW_none, errW_some] <;> rfl) | (simp [hy_ne]; done), Q1⟩
     rw [if_neg c32] at H
     exact absurd H Q8
    rw [if_neg c31] at H
    exact absurd H Q8
   replace c29 := Bool.eq_false_iff.mpr c29
   subst c29
   have H1 : (if (wrap64 (a0)) = 26 then (some (⟨#[100, 114, 111, 112]⟩ : ByteArray)) else (if (wrap64 (a0)) = 27 then (some (⟨#[115, 101, 108, 101, 99, 116]⟩ : ByteArray)) else (if (wrap64 (a0)) ≥ 32 then (mandrelref04_Name.j1 kj16 a0 y124 y127 y130 (wrap64 (a0)) (decide ((wrap64 (a0)) ≤ 36))) else (mandrelref04_Name.j1 kj16 a0 y124 y127 y130 (wrap64 (a0)) false)))) = some r := by rw [if_neg (show ¬ (false = true) by decide)] at H; exact H
   clear H
   have H := H1
   clear H1
   by_cases c34 : (wrap64 (a0)) = 26
   ·rw [if_pos c34] at H
    have c34b0 : ((wrap64 (a0)) == 26) = true := beq_iff_eq.mpr c34
    have c34b1 : ((wrap64 (a0)) != 26) = false := bne_eq_false_iff_eq.mpr c34
    clear c34
    obtain rfl := Option.some.inj H
    go_wp2
    go_ret
    exact ⟨Q6, Q1⟩
   rw [if_neg c34] at H
   have c34b0 : ((wrap64 (a0)) == 26) = false := beq_eq_false_iff_ne.mpr c34
   have c34b1 : ((wrap64 (a0)) != 26) = true := bne_iff_ne.mpr c34
   by_cases c35 : (wrap64 (a0)) = 27
   ·rw [if_pos c35] at H
    have c35b0 : ((wrap64 (a0)) == 27) = true := beq_iff_eq.mpr c35
    have c35b1 : ((wrap64 (a0)) != 27) = false := bne_eq_false_iff_eq.mpr c35
    clear c35
    obtain rfl := Option.some.inj H
    go_wp2
    go_ret
    exact ⟨Q6, Q1⟩
   rw [if_neg c35] at H
   have c35b0 : ((wrap64 (a0)) == 27) = false := beq_eq_false_iff_ne.mpr c35
   have c35b1 : ((wrap64 (a0)) != 27) = true := bne_iff_ne.mpr c35
   have HC36 := Aside0.mk H
   clear H
   go_upto_region 15 with (fail)
   go_cut [43] (fun v43 wc => ∃ (kq : Nat) (x43_35 : Bool), v43 = .bool x43_35 ∧ Aside0 (mandrelref04_Name.j1 kq a0 y124 y127 y130 (wrap64 (a0)) x43_35 = some r) ∧ Aside0 (kq ≤ kj16) ∧ Aside0 (Kd.R Kd.string 9 wc w.heap.size (fun k_ => some k_ ≠ (v128 : Value).ownBlock ∧ some k_ ≠ (v131 : Value).ownBlock) v125 y124) ∧ Aside0 (Kd.R Kd.string 9 wc w.heap.size (fun k_ => some k_ ≠ (v125 : Value).ownBlock ∧ some k_ ≠ (v131 : Value).ownBlock) v128 y127) ∧ Aside0 (Kd.R Kd.string 9 wc w.heap.size (fun k_ => some k_ ≠ (v125 : Value).ownBlock ∧ some k_ ≠ (v128 : Value).ownBlock) v131 y130) ∧ Aside0 (Below w.heap.size w wc))
   case first =>
    have H := HC36.out
    clear HC36
    by_cases c37 : (wrap64 (a0)) ≥ 32
    ·rw [if_pos c37] at H
     have c37b0 : decide (32 ≤ (wrap64 (a0))) = true := decide_eq_true c37
     clear c37
     (first | rw [c37b0] | (simp only [i64_w, i32_w]; rw [c37b0]) | skip)
     have H' := Aside0.mk H
     clear H
     go_wp2
     go_meet
     case rel => exact ⟨_, (decide ((wrap64 (a0)) ≤ 36)), Q3, H', ⟨by have := HJ16.out; first | omega | exact Nat.le_refl _⟩, ⟨Q136⟩, ⟨Q137⟩, ⟨Q138⟩, ⟨Q1⟩⟩
    rw [if_neg c37] at H
    have c37b0 : decide (32 ≤ (wrap64 (a0))) = false := decide_eq_false c37
    clear c37
    (first | rw [c37b0] | (simp only [i64_w, i32_w]; rw [c37b0]) | skip)
    have H' := Aside0.mk H
    clear H
    go_wp2
    go_meet
    case rel => exact ⟨_, (false), Q3, H', ⟨by have := HJ16.out; first | omega | exact Nat.le_refl _⟩, ⟨Q136⟩, ⟨Q137⟩, ⟨Q138⟩, ⟨Q1⟩⟩
   case rest =>
    clear HC36
    try clear q1
    try clear hx1
    try clear c2
    try clear c2b0
    try clear q13
    try clear hx13
    try clear c29
    try clear c34
    try clear c34b0
    try clear c34b1
    try clear c35
    try clear c35b0
    try clear c35b1
    try clear hx133_0
    try clear hx134_0
    try clear q1
    try clear q13
    try clear q133
    try clear q134
    obtain ⟨kq, x43_35, rfl, HA, HJ35, HO_5, HO_6, HO_7, HB⟩ := hcut
    cases kq with
    | zero => exact absurd HA.out (by simp [mandrelref04_Name.j1])
    | succ kj35 =>
     have H := HA.out
     clear HA
     simp only [mandrelref04_Name.j1] at H
     by_cases c38 : x43_35 = true
     ·subst c38
      have H1 : (if 0 ≤ (wrap64 ((wrap64 (a0)) - 32)) then (if (wrap64 ((wrap64 (a0)) - 32)) < (y124.length : Int) then (some (rdOf ByteArray.empty y124 (wrap64 ((wrap64 (a0)) - 32)))) else (none)) else (none)) = some r := Q14
      clear H
      have H := H1
      clear H1
      obtain ⟨ji39, hji39⟩ : ∃ j_ : Int, (wrap64 ((wrap64 (a0)) - 32)) = j_ := ⟨_, rfl⟩
      replace H : (if 0 ≤ (ji39) then (if (ji39) < (y124.length : Int) then (some (rdOf ByteArray.empty y124 (ji39))) else (none)) else (none)) = some r := Q108
      have hji39w : (IntKind.i64.wrap ((wrap64 (a0)) - 32)) = ji39 := (i64_w _).trans hji39
      by_cases c40 : 0 ≤ (ji39)
      ·rw [if_pos c40] at H
       have c40b0 : decide (0 ≤ (ji39)) = true := decide_eq_true c40
       clear c40
       by_cases c41 : (ji39) < (y124.length : Int)
       ·rw [if_pos c41] at H
        have c41b0 : decide ((ji39) < (y124.length : Int)) = true := decide_eq_true c41
        clear c41
        obtain rfl := Option.some.inj H
        obtain ⟨Ao42, co42, eo42⟩ := Kd.R_slice HO_5.out
        subst eo42
        have p135 : 0 ≤ ((ji39) : Int) := of_decide_eq_true Q4
        have q135 : (ji39) < (y124.length : Int) := of_decide_eq_true Q4
        obtain ⟨ad135, e135, hx135_0⟩ := Kd.at_string (Kd.R_reads' HO_5.out).2.2 (ji39) p135 q135
        cases e135
        replace p135 := eq_true p135
        replace q135 := eq_true q135
        go_wp2
        go_ret
        exact ⟨Q109, Q1⟩
       rw [if_neg c41] at H
       exact absurd H Q8
      rw [if_neg c40] at H
      exact absurd H Q8
     replace c38 := Bool.eq_false_iff.mpr c38
     subst c38
     have H1 : (if (wrap64 (a0)) = 40 then (some (⟨#[105, 51, 50, 46, 108, 111, 97, 100]⟩ : ByteArray)) else (if (wrap64 (a0)) = 41 then (some (⟨#[105, 54, 52, 46, 108, 111, 97, 100]⟩ : ByteArray)) else (if (wrap64 (a0)) ≥ 44 then (mandrelref04_Name.j2 kj35 a0 y127 y130 (wrap64 (a0)) (decide ((wrap64 (a0)) ≤ 55))) else (mandrelref04_Name.j2 kj35 a0 y127 y130 (wrap64 (a0)) false)))) = some r := by rw [if_neg (show ¬ (false = true) by decide)] at H; exact H
     clear H
     have H := H1
     clear H1
     by_cases c43 : (wrap64 (a0)) = 40
     ·rw [if_pos c43] at H
      have c43b0 : ((wrap64 (a0)) == 40) = true := beq_iff_eq.mpr c43
      have c43b1 : ((wrap64 (a0)) != 40) = false := bne_eq_false_iff_eq.mpr c43
      clear c43
      obtain rfl := Option.some.inj H
      go_wp2
      go_ret
      exact ⟨Q6, Q1⟩
     rw [if_neg c43] at H
     have c43b0 : ((wrap64 (a0)) == 40) = false := beq_eq_false_iff_ne.mpr c43
     have c43b1 : ((wrap64 (a0)) != 40) = true := bne_iff_ne.mpr c43
     by_cases c44 : (wrap64 (a0)) = 41
     ·rw [if_pos c44] at H
      have c44b0 : ((wrap64 (a0)) == 41) = true := beq_iff_eq.mpr c44
      have c44b1 : ((wrap64 (a0)) != 41) = false := bne_eq_false_iff_eq.mpr c44
      clear c44
      obtain rfl := Option.some.inj H
      go_wp2
      go_ret
      exact ⟨Q6, Q1⟩
     rw [if_neg c44] at H
     have c44b0 : ((wrap64 (a0)) == 41) = false := beq_eq_false_iff_ne.mpr c44
     have c44b1 : ((wrap64 (a0)) != 41) = true := bne_iff_ne.mpr c44
     have HC45 := Aside0.mk H
     clear H
     go_upto_region 21 with (fail)
     go_cut [61] (fun v61 wc => ∃ (kq : Nat) (x61_44 : Bool), v61 = .bool x61_44 ∧ Aside0 (mandrelref04_Name.j2 kq a0 y127 y130 (wrap64 (a0)) x61_44 = some r) ∧ Aside0 (kq ≤ kj35) ∧ Aside0 (Kd.R Kd.string 9 wc w.heap.size (fun k_ => some k_ ≠ (v131 : Value).ownBlock) v128 y127) ∧ Aside0 (Kd.R Kd.string 9 wc w.heap.size (fun k_ => some k_ ≠ (v128 : Value).ownBlock) v131 y130) ∧ Aside0 (Below w.heap.size w wc))
     case first =>
      have H := HC45.out
      clear HC45
      by_cases c46 : (wrap64 (a0)) ≥ 44
      ·rw [if_pos c46] at H
       have c46b0 : decide (44 ≤ (wrap64 (a0))) = true := decide_eq_true c46
       clear c46
       (first | rw [c46b0] | (simp only [i64_w, i32_w]; rw [c46b0]) | skip)
       have H' := Aside0.mk H
       clear H
       go_wp2
       go_meet
       case rel => exact ⟨_, (decide ((wrap64 (a0)) ≤ 55)), Q3, H', ⟨Q139⟩, ⟨Q140⟩, ⟨Q141⟩, ⟨Q1⟩⟩
      rw [if_neg c46] at H
      have c46b0 : decide (44 ≤ (wrap64 (a0))) = false := decide_eq_false c46
      clear c46
      (first | rw [c46b0] | (simp only [i64_w, i32_w]; rw [c46b0]) | skip)
      have H' := Aside0.mk H
      clear H
      go_wp2
      go_meet
      case rel => exact ⟨_, (false), Q3, H', ⟨Q139⟩, ⟨Q140⟩, ⟨Q141⟩, ⟨Q1⟩⟩
     case rest =>
      clear HC45
      try clear q1
      try clear hx1
      try clear c2
      try clear c2b0
      try clear q13
      try clear hx13
      try clear c29
      try clear c34
      try clear c34b0
      try clear c34b1
      try clear c35
      try clear c35b0
      try clear c35b1
      try clear c38
      try clear c43
      try clear c43b0
      try clear c43b1
      try clear c44
      try clear c44b0
      try clear c44b1
      try clear hx133_0
      try clear hx134_0
      try clear hx135_0
      try clear q1
      try clear q13
      try clear q133
      try clear q134
      try clear q135
      obtain ⟨kq, x61_44, rfl, HA, HJ44, HO_6, HO_7, HB⟩ := hcut
      cases kq with
      | zero => exact absurd HA.out (by simp [mandrelref04_Name.j2])
      | succ kj44 =>
       have H := HA.out
       clear HA
       simp only [mandrelref04_Name.j2] at H
       by_cases c47 : x61_44 = true
       ·subst c47
        have H1 : (if 0 ≤ (wrap64 ((wrap64 (a0)) - 44)) then (if (wrap64 ((wrap64 (a0)) - 44)) < (y127.length : Int) then (some (rdOf ByteArray.empty y127 (wrap64 ((wrap64 (a0)) - 44)))) else (none)) else (none)) = some r := Q14
        clear H
        have H := H1
        clear H1
        obtain ⟨ji48, hji48⟩ : ∃ j_ : Int, (wrap64 ((wrap64 (a0)) - 44)) = j_ := ⟨_, rfl⟩
        replace H : (if 0 ≤ (ji48) then (if (ji48) < (y127.length : Int) then (some (rdOf ByteArray.empty y127 (ji48))) else (none)) else (none)) = some r := by first | (rw [hji48] at H; exact H) | (simp only [hji48] at H ⊢; exact H)
        have hji48w : (IntKind.i64.wrap ((wrap64 (a0)) - 44)) = ji48 := (i64_w _).trans hji48
        by_cases c49 : 0 ≤ (ji48)
        ·rw [if_pos c49] at H
         have c49b0 : decide (0 ≤ (ji48)) = true := decide_eq_true c49
         clear c49
         by_cases c50 : (ji48) < (y127.length : Int)
         ·rw [if_pos c50] at H
          have c50b0 : decide ((ji48) < (y127.length : Int)) = true := decide_eq_true c50
          clear c50
          obtain rfl := Option.some.inj H
          obtain ⟨Ao51, co51, eo51⟩ := Kd.R_slice HO_6.out
          subst eo51
          have p136 : 0 ≤ ((ji48) : Int) := of_decide_eq_true Q4
          have q136 : (ji48) < (y127.length : Int) := of_decide_eq_true Q4
          obtain ⟨ad136, e136, hx136_0⟩ := Kd.at_string (Kd.R_reads' HO_6.out).2.2 (ji48) p136 q136
          cases e136
          replace p136 := eq_true p136
          replace q136 := eq_true q136
          go_wp2
          go_ret
          exact ⟨by first | rfl | (simp [errW_none, errW_some] <;> rfl) | (simp only [← hji48]; first | rfl | (simp [errW_none, errW_some] <;> rfl)) | (simp [*, errW_none, errW_some] <;> rfl) | (simp [hy_ne]; done), Q1⟩
         rw [if_neg c50] at H
         exact absurd H Q8
        rw [if_neg c49] at H
        exact absurd H Q8
       replace c47 := Bool.eq_false_iff.mpr c47
       subst c47
       have H1 : (if (wrap64 (a0)) ≥ 58 then (mandrelref04_Name.j3 kj44 a0 y130 (wrap64 (a0)) (decide ((wrap64 (a0)) ≤ 66))) else (mandrelref04_Name.j3 kj44 a0 y130 (wrap64 (a0)) false)) = some r := by rw [if_neg (show ¬ (false = true) by decide)] at H; exact H
       clear H
       have H := H1
       clear H1
       have HC52 := Aside0.mk H
       clear H
       go_upto_region 23 with (fail)
       go_cut [73] (fun v73 wc => ∃ (kq : Nat) (x73_51 : Bool), v73 = .bool x73_51 ∧ Aside0 (mandrelref04_Name.j3 kq a0 y130 (wrap64 (a0)) x73_51 = some r) ∧ Aside0 (kq ≤ kj44) ∧ Aside0 (Kd.R Kd.string 9 wc w.heap.size (fun _ => True) v131 y130) ∧ Aside0 (Below w.heap.size w wc))
       case first =>
        have H := HC52.out
        clear HC52
        by_cases c53 : (wrap64 (a0)) ≥ 58
        ·rw [if_pos c53] at H
         have c53b0 : decide (58 ≤ (wrap64 (a0))) = true := decide_eq_true c53
         clear c53
         (first | rw [c53b0] | (simp only [i64_w, i32_w]; rw [c53b0]) | skip)
         have H' := Aside0.mk H
         clear H
         go_wp2
         go_meet
         case rel => exact ⟨_, (decide ((wrap64 (a0)) ≤ 66)), Q3, H', ⟨Q142⟩, ⟨Q143⟩, ⟨Q1⟩⟩
        rw [if_neg c53] at H
        have c53b0 : decide (58 ≤ (wrap64 (a0))) = false := decide_eq_false c53
        clear c53
        (first | rw [c53b0] | (simp only [i64_w, i32_w]; rw [c53b0]) | skip)
        have H' := Aside0.mk H
        clear H
        go_wp2
        go_meet
        case rel => exact ⟨_, (false), Q3, H', ⟨Q142⟩, ⟨Q143⟩, ⟨Q1⟩⟩
       case rest =>
        clear HC52
        try clear q1
        try clear hx1
        try clear c2
        try clear c2b0
        try clear q13
        try clear hx13
        try clear c29
        try clear c34
        try clear c34b0
        try clear c34b1
        try clear c35
        try clear c35b0
        try clear c35b1
        try clear c38
        try clear c43
        try clear c43b0
        try clear c43b1
        try clear c44
        try clear c44b0
        try clear c44b1
        try clear c47
        try clear hx133_0
        try clear hx134_0
        try clear hx135_0
        try clear hx136_0
        try clear q1
        try clear q13
        try clear q133
        try clear q134
        try clear q135
        try clear q136
        obtain ⟨kq, x73_51, rfl, HA, HJ51, HO_7, HB⟩ := hcut
        cases kq with
        | zero => exact absurd HA.out (by simp [mandrelref04_Name.j3])
        | succ kj51 =>
         have H := HA.out
         clear HA
         simp only [mandrelref04_Name.j3] at H
         by_cases c54 : x73_51 = true
         ·subst c54
          have H1 : (if 0 ≤ (wrap64 ((wrap64 (a0)) - 58)) then (if (wrap64 ((wrap64 (a0)) - 58)) < (y130.length : Int) then (some (rdOf ByteArray.empty y130 (wrap64 ((wrap64 (a0)) - 58)))) else (none)) else (none)) = some r := Q14
          clear H
          have H := H1
          clear H1
          obtain ⟨ji55, hji55⟩ : ∃ j_ : Int, (wrap64 ((wrap64 (a0)) - 58)) = j_ := ⟨_, rfl⟩
          replace H : (if 0 ≤ (ji55) then (if (ji55) < (y130.length : Int) then (some (rdOf ByteArray.empty y130 (ji55))) else (none)) else (none)) = some r := by first | (rw [hji55] at H; exact H) | (simp only [hji55] at H ⊢; exact H)
          have hji55w : (IntKind.i64.wrap ((wrap64 (a0)) - 58)) = ji55 := (i64_w _).trans hji55
          by_cases c56 : 0 ≤ (ji55)
          ·rw [if_pos c56] at H
           have c56b0 : decide (0 ≤ (ji55)) = true := decide_eq_true c56
           clear c56
           by_cases c57 : (ji55) < (y130.length : Int)
           ·rw [if_pos c57] at H
            have c57b0 : decide ((ji55) < (y130.length : Int)) = true := decide_eq_true c57
            clear c57
            obtain rfl := Option.some.inj H
            obtain ⟨Ao58, co58, eo58⟩ := Kd.R_slice HO_7.out
            subst eo58
            have p137 : 0 ≤ ((ji55) : Int) := of_decide_eq_true Q4
            have q137 : (ji55) < (y130.length : Int) := of_decide_eq_true Q4
            obtain ⟨ad137, e137, hx137_0⟩ := Kd.at_string (Kd.R_reads' HO_7.out).2.2 (ji55) p137 q137
            cases e137
            replace p137 := eq_true p137
            replace q137 := eq_true q137
            go_wp2
            go_ret
            exact ⟨by first | rfl | (simp [errW_none, errW_some] <;> rfl) | (simp only [← hji55]; first | rfl | (simp [errW_none, errW_some] <;> rfl)) | (simp [*, errW_none, errW_some] <;> rfl) | (simp [hy_ne]; done), Q1⟩
           rw [if_neg c57] at H
           exact absurd H Q8
          rw [if_neg c56] at H
          exact absurd H Q8
         replace c54 := Bool.eq_false_iff.mpr c54
         subst c54
         have H1 : (if (wrap64 (a0)) = 167 then (some (⟨#[105, 51, 50, 46, 119, 114, 97, 112, 95, 105, 54, 52]⟩ : ByteArray)) else (if (wrap64 (a0)) = 172 then (some (⟨#[105, 54, 52, 46, 101, 120, 116, 101, 110, 100, 95, 105, 51, 50, 95, 115]⟩ : ByteArray)) else (if (wrap64 (a0)) = 173 then (some (⟨#[105, 54, 52, 46, 101, 120, 116, 101, 110, 100, 95, 105, 51, 50, 95, 117]⟩ : ByteArray)) else ((mandrelref02_Name.f kj51 a0).bind fun bt138 => (if bt138.1.toList = ([] : List UInt8) then (some (⟨#[]⟩ : ByteArray)) else (if bt138.2 = 32 then (if 4 + bt138.1.size ≤ 9223372036854775807 then (some ((⟨#[105, 51, 50, 46]⟩ : ByteArray) ++ bt138.1)) else (none)) else (if 4 + bt138.1.size ≤ 9223372036854775807 then (some ((⟨#[105, 54, 52, 46]⟩ : ByteArray) ++ bt138.1)) else (none)))))))) = some r := by rw [if_neg (show ¬ (false = true) by decide)] at H; exact H
         clear H
         have H := H1
         clear H1
         by_cases c59 : (wrap64 (a0)) = 167
         ·rw [if_pos c59] at H
          have c59b0 : ((wrap64 (a0)) == 167) = true := beq_iff_eq.mpr c59
          have c59b1 : ((wrap64 (a0)) != 167) = false := bne_eq_false_iff_eq.mpr c59
          clear c59
          obtain rfl := Option.some.inj H
          go_wp2
          go_ret
          exact ⟨Q6, Q1⟩
         rw [if_neg c59] at H
         have c59b0 : ((wrap64 (a0)) == 167) = false := beq_eq_false_iff_ne.mpr c59
         have c59b1 : ((wrap64 (a0)) != 167) = true := bne_iff_ne.mpr c59
         by_cases c60 : (wrap64 (a0)) = 172
         ·rw [if_pos c60] at H
          have c60b0 : ((wrap64 (a0)) == 172) = true := beq_iff_eq.mpr c60
          have c60b1 : ((wrap64 (a0)) != 172) = false := bne_eq_false_iff_eq.mpr c60
          clear c60
          obtain rfl := Option.some.inj H
          go_wp2
          go_ret
          exact ⟨Q6, Q1⟩
         rw [if_neg c60] at H
         have c60b0 : ((wrap64 (a0)) == 172) = false := beq_eq_false_iff_ne.mpr c60
         have c60b1 : ((wrap64 (a0)) != 172) = true := bne_iff_ne.mpr c60
         by_cases c61 : (wrap64 (a0)) = 173
         ·rw [if_pos c61] at H
          have c61b0 : ((wrap64 (a0)) == 173) = true := beq_iff_eq.mpr c61
          have c61b1 : ((wrap64 (a0)) != 173) = false := bne_eq_false_iff_eq.mpr c61
          clear c61
          obtain rfl := Option.some.inj H
          go_wp2
          go_ret
          exact ⟨Q6, Q1⟩
         rw [if_neg c61] at H
         have c61b0 : ((wrap64 (a0)) == 173) = false := beq_eq_false_iff_ne.mpr c61
         have c61b1 : ((wrap64 (a0)) != 173) = true := bne_iff_ne.mpr c61
         replace H := Option.bind_eq_some_iff.mp H
         obtain ⟨⟨t138, t139⟩, A620, H⟩ := H
         replace H : (if t138.toList = ([] : List UInt8) then (some (⟨#[]⟩ : ByteArray)) else (if t139 = 32 then (if 4 + t138.size ≤ 9223372036854775807 then (some ((⟨#[105, 51, 50, 46]⟩ : ByteArray) ++ t138)) else (none)) else (if 4 + t138.size ≤ 9223372036854775807 then (some ((⟨#[105, 54, 52, 46]⟩ : ByteArray) ++ t138)) else (none)))) = some r := H
         have A62 := Aside0.mk A620
         clear A620
         by_cases c63 : t138.toList = ([] : List UInt8)
         ·rw [if_pos c63] at H
          have c63b0 : (t138.toList == ([] : List UInt8)) = true := beq_iff_eq.mpr c63
          have c63b1 : (t138.toList != ([] : List UInt8)) = false := bne_eq_false_iff_eq.mpr c63
          clear c63
          obtain rfl := Option.some.inj H
          go_wp2_with (first | ((with_reducible refine gate_callee (f := 93) rfl ?_); refine goesL_ (some 96) rfl rfl Tryz.func93 Q0 rfl #[.int .u8 a0] rfl Q9 ?_; (with_reducible refine (mandrelref02_Name.calls kj51 a0 t138 t139 _ ?side1 A62.out).mono ?_); (case side1 => exact GG.nil _); rintro e w64 ⟨rfl, hb⟩; refine ⟨_, rfl, ?_⟩; have n0_ := Aside0.mk (Kd.R_below Q90 hb); have n1_ := Aside0.mk (below_step Q1 hb); clear HO_7; clear HB; have HO_7 := n0_; have HB := n1_; clear n0_ n1_; (try clear hb); (try clear hb2); (try clear hk); (try clear hi)))
          go_ret
          exact ⟨Q6, Q1⟩
         rw [if_neg c63] at H
         have c63b0 : (t138.toList == ([] : List UInt8)) = false := beq_eq_false_iff_ne.mpr c63
         have c63b1 : (t138.toList != ([] : List UInt8)) = true := bne_iff_ne.mpr c63
         by_cases c65 : t139 = 32
         ·rw [if_pos c65] at H
          have c65b0 : (t139 == 32) = true := beq_iff_eq.mpr c65
          have c65b1 : (t139 != 32) = false := bne_eq_false_iff_eq.mpr c65
          clear c65
          by_cases c66 : 4 + t138.size ≤ 9223372036854775807
          ·rw [if_pos c66] at H
           have c66b0 := eq_true c66
           have c66b1 : decide (4 + t138.size ≤ 9223372036854775807) = true := decide_eq_true c66
           try have c66b2 : (9223372036854775807 < 4 + t138.size) = False := eq_false (Nat.not_lt.2 c66)
           obtain rfl := Option.some.inj H
           go_wp2_with (first | ((with_reducible refine gate_callee (f := 93) rfl ?_); refine goesL_ (some 96) rfl rfl Tryz.func93 Q0 rfl #[.int .u8 a0] rfl Q9 ?_; (with_reducible refine (mandrelref02_Name.calls kj51 a0 t138 t139 _ ?side1 A62.out).mono ?_); (case side1 => exact GG.nil _); rintro e w67 ⟨rfl, hb⟩; refine ⟨_, rfl, ?_⟩; have n0_ := Aside0.mk (Kd.R_below Q90 hb); have n1_ := Aside0.mk (below_step Q1 hb); clear HO_7; clear HB; have HO_7 := n0_; have HB := n1_; clear n0_ n1_; (try clear hb); (try clear hb2); (try clear hk); (try clear hi)))
           go_ret
           exact ⟨Q6, Q1⟩
          rw [if_neg c66] at H
          exact absurd H Q8
         rw [if_neg c65] at H
         have c65b0 : (t139 == 32) = false := beq_eq_false_iff_ne.mpr c65
         have c65b1 : (t139 != 32) = true := bne_iff_ne.mpr c65
         by_cases c68 : 4 + t138.size ≤ 9223372036854775807
         ·rw [if_pos c68] at H
          have c68b0 := eq_true c68
          have c68b1 : decide (4 + t138.size ≤ 9223372036854775807) = true := decide_eq_true c68
          try have c68b2 : (9223372036854775807 < 4 + t138.size) = False := eq_false (Nat.not_lt.2 c68)
          obtain rfl := Option.some.inj H
          go_wp2_with (first | ((with_reducible refine gate_callee (f := 93) rfl ?_); refine goesL_ (some 96) rfl rfl Tryz.func93 Q0 rfl #[.int .u8 a0] rfl Q9 ?_; (with_reducible refine (mandrelref02_Name.calls kj51 a0 t138 t139 _ ?side1 A62.out).mono ?_); (case side1 => exact GG.nil _); rintro e w69 ⟨rfl, hb⟩; refine ⟨_, rfl, ?_⟩; have n0_ := Aside0.mk (Kd.R_below Q90 hb); have n1_ := Aside0.mk (below_step Q1 hb); clear HO_7; clear HB; have HO_7 := n0_; have HB := n1_; clear n0_ n1_; (try clear hb); (try clear hb2); (try clear hk); (try clear hi)))
          go_ret
          exact ⟨Q6, Q1⟩
         rw [if_neg c68] at H
         exact absurd H Q8
end Go.Proofs.YthgkeehpoilgaaaGreatDoor.Hw
end

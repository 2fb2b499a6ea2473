import Derived.Outline
import Derived.Lib.Hide
import Derived.LoopTactic
import Derived.Test.YthgkeehpoilgaaaDoorProg
import Derived.Test.YthgkeehpoilgaaaDoorHvx0
import Derived.Test.YthgkeehpoilgaaaDoorHvHAway
namespace Go.Proofs.YthgkeehpoilgaaaDoor.Hv
open Go.RowKit Go.Proofs.YthgkeehpoilgaaaDoorW.PrintWords Go.Proofs.YthgkeehpoilgaaaDoorW.PrintLast Go.Proofs.YthgkeehpoilgaaaDoorW.PrintMore
attribute [local go_sem] max2_int min2_int max_two min_two max_three min_three max_four min_four   -- for this text's walks alone
set_option linter.unusedVariables false
set_option linter.unusedSimpArgs false

/-! ### (mandrel/vcode.Code).whole$1, and slices.ContainsFunc with it. -/
theorem away_Whole (x : Int) (Ab : Option Addr) (n cb : Nat) (B : Nat) (w : World) (hc : w.cell? ⟨B, 3, none⟩ = some (.slice Ab n cb)) :
    Calls Tryd.prog 125 #[.int .i64 x, .pointer (some ⟨B, 0, none⟩)] w fun e w' => e = .returned (.bool (awayB x n)) ∧ w = w' := by
  by_cases h0 : x < 0
  · have hb : awayB x n = true := by simp [awayB, h0]
    rw [hb]
    go_enter Tryd.func125, Tryd.ntmps125
    go_wp2
    go_ret
    exact ⟨rfl, rfl⟩
  · by_cases h1 : n ≤ x
    · have hb : awayB x n = true := by simp [awayB, h1]
      rw [hb]
      go_enter Tryd.func125, Tryd.ntmps125
      go_wp2
      go_ret
      exact ⟨rfl, rfl⟩
    · have hb : awayB x n = false := by simp [awayB, h0, h1]
      rw [hb]
      go_enter Tryd.func125, Tryd.ntmps125
      go_wp2
      go_ret
      exact ⟨rfl, rfl⟩
set_option maxHeartbeats 1000000 in
set_option maxRecDepth 100000 in
theorem awayIdx_Whole (src : List Int) (A : Option Addr) (c : Nat) (Ab : Option Addr) (n cb : Nat) (B : Nat) (w : World) (hr : Kd.C (Kd.int .i64) w A src.length src) (hc : w.cell? ⟨B, 3, none⟩ = some (.slice Ab n cb)) :
    Calls Tryd.prog 138 #[.slice A src.length c, .func (.func 125) #[] #[.pointer (some ⟨B, 0, none⟩)]] w fun e w' => e = .returned (.int .i64 (awayIdx src n 0)) ∧ w = w' := by
  have hm := hr.2.1
  have Hr := Lib.hid hr
  clear hr
  go_enter Tryd.func138, Tryd.ntmps138
  go_wp2
  go_loop [8, 5] (fun i _ => ∃ k : Nat, k ≤ src.length ∧ i = .int .i64 k ∧ awayIdx (src.drop k) n (k : Int) = awayIdx src n 0) (fun i _ => src.length - (intOf i).toNat)
  case atStart => exact ⟨0, Nat.zero_le _, rfl, rfl⟩
  case round =>
    obtain ⟨k, hk, rfl, he⟩ := hrel
    have He := Lib.hid he
    clear he
    by_cases hlt : k < src.length
    · obtain ⟨ad, x, rfl, hx, hcell⟩ := away_cell Hr.out k hlt
      have hcl := away_Whole x Ab n cb B w hc
      have Hcl := Lib.hid hcl
      clear hcl
      have hstep := awayIdx_step src n k hlt
      rw [← hx] at hstep
      have Hst := Lib.hid hstep
      clear hstep hx
      by_cases ha : awayB x n = true
      · have Ha := Lib.hid ha
        clear ha
        go_wp2_with (go_at_call 125; refine (Hcl.out).mono ?_; rintro e w' ⟨rfl, rfl⟩; rw [Ha.out])
        go_ret
        exact ⟨by rw [← He.out, Hst.out, if_pos Ha.out]; rfl, rfl⟩
      · rw [Bool.not_eq_true] at ha
        have Ha := Lib.hid ha
        clear ha
        go_wp2_with (go_at_call 125; refine (Hcl.out).mono ?_; rintro e w' ⟨rfl, rfl⟩; rw [Ha.out])
        go_round
        case rel => exact ⟨k + 1, by omega, by go_num, by rw [← He.out, Hst.out, if_neg (by rw [Ha.out]; decide)]⟩
        case measure => simp [intOf]; omega
    · have hek : k = src.length := by omega
      go_wp2
      go_ret
      refine ⟨?_, rfl⟩
      rw [← He.out, List.drop_eq_nil_of_le (by omega)]
      rfl
theorem awayAny_Whole (src : List Int) (A : Option Addr) (c : Nat) (Ab : Option Addr) (n cb : Nat) (B : Nat) (w : World) (hr : Kd.C (Kd.int .i64) w A src.length src) (hc : w.cell? ⟨B, 3, none⟩ = some (.slice Ab n cb)) :
    Calls Tryd.prog 124 #[.slice A src.length c, .func (.func 125) #[] #[.pointer (some ⟨B, 0, none⟩)]] w fun e w' => e = .returned (.bool (src.any fun x => awayB x n)) ∧ w = w' := by
  have hi := awayIdx_iff src n 0 (by omega)
  have hcl := awayIdx_Whole src A c Ab n cb B w hr hc
  clear hr hc
  rw [← hi]
  clear hi
  have Hcl := Lib.hid hcl
  clear hcl
  go_enter Tryd.func124, Tryd.ntmps124
  go_wp2_with (go_at_call 138; refine (Hcl.out).mono ?_; rintro e w' ⟨rfl, rfl⟩)
  go_ret
  exact ⟨rfl, rfl⟩
end Go.Proofs.YthgkeehpoilgaaaDoor.Hv

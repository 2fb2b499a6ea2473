/- The row and the tied card of the law VcodeLines: whatever the input, the call returns true and the input reads as it did; the variables math/bits.deBruijn32tab, math/bits.deBruijn64tab, internal/strconv.uint64pow10, errors.errorType are laid by the program's own text (the given tie). -/
import Derived.Test.YthgkeehpoilgaaaGreatDoorRows
import Derived.Test.YthgkeehpoilgaaaGreatDoorCards
import Derived.Test.YthgkeehpoilgaaaGreatDoorTie
import Derived.WalkKit
import Derived.ProofKit
import Derived.OpenShut
import Derived.ShutString
import Derived.ChangeOld
import Derived.Below
import Derived.Carry
import Derived.SizedLaws
import Derived.SevenTiedAt
import Derived.Lib.SmallJoins
import Derived.Test.YthgkeehpoilgaaaGreatDoorHwP2
import Derived.Test.YthgkeehpoilgaaaGreatDoorHwP14
import Derived.Test.YthgkeehpoilgaaaGreatDoorHwP15
namespace Go.Proofs.YthgkeehpoilgaaaGreatDoor.vcodeLines
open Go.ChangeShapes Go.WideShapes Go.ChangeAt Go.RowKit Go.Joins Go.Proofs.YthgkeehpoilgaaaGreatDoor.Hw Go.Proofs.YthgkeehpoilgaaaGreatDoorW.PrintWords
open Go.ChangeMaps (open_string shut_string)
set_option linter.unusedVariables false
theorem laidOut : laidOutB Tryz.prog = true := by kernel_rfl
def laid : List (String × DataW Unit) := [("math/bits.deBruijn32tab", Rows.laid_math_bits_deBruijn32tab), ("math/bits.deBruijn64tab", Rows.laid_math_bits_deBruijn64tab), ("internal/strconv.uint64pow10", Rows.laid_internal_strconv_uint64pow10), ("errors.errorType", Rows.laid_errors_errorType)]
theorem door_met (os : Os) (args : Array Value) : laidMetH Tryz.prog laid ((World.doorLaid Tryz.prog 400 os).forCall (fun _ _ => 0) ⟨#[], args, []⟩).memory :=
  laidMetH_of_parts3 (fuel := 8) (laidMet_of_run' 8 (by kernel_rfl) (by kernel_rfl)) (by kernel_rfl) (by kernel_rfl)
set_option maxRecDepth 100000 in
theorem lifted (os : Os) (started : os.Started) (H : Type) (enc : TypeId × Value → H) :
    ReturnsInHanded {} Tryz.checked os 4 .any (fun w args => (Rows.vcodeLinesSpec.pre enc Tryz.prog Tryz.f4 [] false w args ∧ laidMetH Tryz.prog laid w) ∧ sizedMet enc Tryz.prog Tryz.f4 (OpenSpec.ofChange Rows.vcodeLinesSpec) false w args) (Rows.vcodeLinesSpec.post enc Tryz.prog Tryz.f4 false true false false) := by
  refine returnsInHanded_of_door (C := Tryz.checked) (X := fun w _ => laidMetH Tryz.prog laid w) (fun _ _ _ hh h => h.of_heap hh) door_own started (by kernel_rfl) Tryz.func4
    (ChangeSpec.witness_shaped (enc := enc) (C := Tryz.checked) (os := os) (X := fun w _ => laidMetH Tryz.prog laid w) false (World.doorLaid Tryz.prog 400 os) #[.agg #[.int .i64 0, .int .i64 0, .bool false, .slice none 0 0]] 8 rfl (World.shaped_of_RefB (by kernel_rfl) (by kernel_rfl)) (by kernel_rfl) (by kernel_rfl) (by kernel_rfl) (door_met os _)) ?_
  intro W base args ds gs before hval0 hW hcnd hsz0 hL hsh _
  have hsz : (DataW.weightsEach Tryz.prog (Tryz.f4.params.toList ++ Rows.vcodeLinesSpec.plain.varTypes Tryz.prog) (ds ++ gs)).all (· ≤ reachBytes) = true := hsz0
  have hval : ∀ (j : Nat) t v, Tryz.f4.params[j]? = some t → args[j]? = some v → Value.okWide Tryz.prog W .any base t v := hval0
  have hW' := hW
  obtain ⟨p, q, hA0, hV, rfl, hfz, hnd⟩ := hW
  have hA : DataW.TrodAll enc Tryz.prog W 0 (fun _ => true) true Tryz.f4.params.toList args.toList ds p := hA0
  rw [Tryz.params4] at hA hval hsz
  obtain ⟨v0, vs0, d0, ds0, p0, q0, hargs, rfl, rfl, h0, r0⟩ := trodAll_cons hA
  obtain ⟨rfl, rfl, rfl⟩ := trodAll_nil r0
  obtain rfl : args = #[v0] := by cases args; simp_all
  obtain ⟨rfl, rfl⟩ := trodVars_none hV
  have k0 := h0
  have lt0 : ∀ x ∈ p0, x.block < W.heap.size := by obtain ⟨m, hm⟩ := k0; exact DataW.trod_lt m _ _ _ hm
  obtain ⟨v0_0, v0_1, v0_2, v0_3, y0_0, y0_1, y0_2, y0_3, n0, rfl, rfl, rfl, t0_0, t0_1, t0_2, t0_3⟩ := open_agg4 Tryz.underlying24 (by kernel_rfl) (by kernel_rfl) (hval 0 24 v0 rfl rfl) h0
  obtain ⟨a0_0, ea0_0, wa0_0⟩ := opens_int (enc := enc) (P := Tryz.prog) (w := W) (k := .i64) (by kernel_rfl) _ _ _ t0_0
  obtain rfl : v0_0 = .int .i64 a0_0 := by simpa using (show [v0_0] = [.int .i64 a0_0] from ea0_0)
  obtain ⟨a0_1, ea0_1, wa0_1⟩ := opens_int (enc := enc) (P := Tryz.prog) (w := W) (k := .i64) (by kernel_rfl) _ _ _ t0_1
  obtain rfl : v0_1 = .int .i64 a0_1 := by simpa using (show [v0_1] = [.int .i64 a0_1] from ea0_1)
  obtain ⟨a0_2, ea0_2, _⟩ := opens_bool (enc := enc) (P := Tryz.prog) (w := W) (by kernel_rfl) _ _ _ t0_2
  obtain rfl : v0_2 = .bool a0_2 := by simpa using (show [v0_2] = [.bool a0_2] from ea0_2)
  obtain ⟨l0_3, ⟨A0_3, c0_3, el0_3, hc0_3, hr0_3⟩, wl0_3⟩ := opens_slice (enc := enc) (P := Tryz.prog) (w := W) (d := k80) (by kernel_rfl) (by kernel_rfl) z80 opens80 _ _ _ t0_3
  obtain rfl : v0_3 = .slice A0_3 l0_3.length c0_3 := by simpa using (show [v0_3] = [.slice A0_3 l0_3.length c0_3] from el0_3)
  clear hA0 hval0 hsz0 hsz
  have hL2 : laidMet Tryz.prog [("math/bits.deBruijn32tab", Rows.laid_math_bits_deBruijn32tab), ("math/bits.deBruijn64tab", Rows.laid_math_bits_deBruijn64tab), ("internal/strconv.uint64pow10", Rows.laid_internal_strconv_uint64pow10)] W ∧ handlesMet Tryz.prog [("errors.errorType", Rows.laid_errors_errorType)] W := hL
  obtain ⟨hLd, hLh⟩ := hL2
  have g1 := door_handle hLh (List.mem_singleton.2 rfl)
  have g3 := door_tab3 (hLd)
  have g2 := door_tab2 (hLd.tail)
  have g4 := door_tab4 (hLd.tail.tail)
  have hG : GG [0, 1, 4] W := by
    intro i hi
    simp only [List.mem_cons, List.not_mem_nil, or_false] at hi
    rcases hi with rfl | rfl | rfl
    · exact door_maxLen hsh
    · exact g1
    · exact g4
  obtain ⟨k, hk⟩ := Pure.VcodeLines a0_0 a0_1 a0_2 l0_3 wa0_0 wa0_1 wl0_3
  refine (mandrellaw11_VcodeLines.calls k a0_0 a0_1 a0_2 A0_3 c0_3 l0_3 true W hr0_3 hc0_3 hG hk).mono fun e W' ⟨he, bel0⟩ => ?_
  have bel : Below W.heap.size W W' := bel0
  subst he
  exact ⟨_, rfl, _, _, _, [], _, [], hW', trodAll_mk1 (shut_bool Tryz.underlying4 _), (trodAll_cons_mk (Below.trod laidOut (by kernel_rfl) (of_decide_eq_true (by kernel_rfl)) k0 bel lt0) trodAll_mk0), rfl, bel.frame _, fun h => by cases h⟩
theorem over : Rows.vcodeLinesRow.holds Tryz.pinned (OpenSpec.ofChange Rows.vcodeLinesSpec) :=
  OpenClaim.holds_of_wide 4 Tryz.f4 rfl rfl rfl rfl rfl rfl rfl ⟨rfl, rfl, rfl, rfl, rfl⟩ rfl rfl rfl rfl rfl (by kernel_rfl) Tryz.func4 (by kernel_rfl)
    (of_decide_eq_true (by kernel_rfl)) (by unfold Func.isWrapper; first | (rw [if_pos (by decide +kernel)]; kernel_rfl) | (rw [if_neg (by decide +kernel)]; exact ⟨rfl, rfl⟩))
    (fun os started H enc _ => lifted os started H enc)
theorem card : Rows.VcodeLinesCardSaid :=
  Claim7.holds_tied_plain_at .later [] [.data, .data, .data, .handle] true (true, "9016fd02bb90b8922b0f4fee7d50d8da253f4912bc27c7213812be38961b7c6a") true
    over (fun _ h => by cases h) (by kernel_rfl) (fun _ h => by cases h) vcodeLines_row_tie rfl ⟨rfl, rfl⟩ (by kernel_rfl) rfl
    (fun f fn hf hfn => by
      obtain rfl : f = 4 := Option.some.inj ((show Tryz.prog.funcNamed "mandrel/mandrellaw11.VcodeLines" = some 4 by kernel_rfl).symm.trans hf) |>.symm
      obtain rfl : fn = Tryz.f4 := (Option.some.inj (Tryz.func4.symm.trans hfn)).symm
      refine ⟨by kernel_rfl, fun j t ht => ?_⟩
      rw [Tryz.params4] at ht
      have ht2 : t ∈ [24] := by
        have := Array.mem_of_getElem? ht
        simpa using this
      simp only [List.mem_cons, List.not_mem_nil, or_false] at ht2
      subst ht2
      exact (show Tryz.prog.wantsStandIn 24 = false by kernel_rfl))
    (by kernel_rfl)
#print axioms card
end Go.Proofs.YthgkeehpoilgaaaGreatDoor.vcodeLines
namespace Go.Proofs.YthgkeehpoilgaaaGreatDoor
/-- The tied card, under a short name, for the claim. -/
theorem vcodeLines_card : Rows.VcodeLinesCardSaid := vcodeLines.card
end Go.Proofs.YthgkeehpoilgaaaGreatDoor

-- WRITTEN BY hyb.py (a program of this work's own) out of the translation, by the kit's print. Not trusted: Lean checks it.
import Derived.Test.YthgkeehpoilgaaaDoorHfx0
import Derived.Test.YthgkeehpoilgaaaDoorHfx5
import Derived.Test.YthgkeehpoilgaaaDoorHfx6
import Derived.Test.YthgkeehpoilgaaaDoorHfx7
namespace Go.Proofs.YthgkeehpoilgaaaDoor.Hf
open Go.RowKit Go.Proofs.YthgkeehpoilgaaaDoorW.PrintWords Go.Proofs.YthgkeehpoilgaaaDoorW.PrintLast Go.Proofs.YthgkeehpoilgaaaDoorW.PrintMore
attribute [local go_sem] max2_int min2_int max_two min_two max_three min_three max_four min_four   -- for this text's walks alone
set_option linter.unusedVariables false
set_option linter.unusedSimpArgs false

/-! ### mandrelref04_Sign: function 21 -/
mutual
def mandrelref04_Sign.j0 : Nat → Int → ByteArray → Bool → Option (List Int × Int × Bool)
  | 0, _, _, _ => none
  | k + 1, x0, x5, x19 => if x19 = true then (some (([] : List Int), 0, false)) else ((mandrelref04_Kind.f x5).bind fun t222 => ((mandrelref04_Form.f k x0).bind fun bt223 => (if bt223.1 = 1 then (mandrelref04_Sign.j1 k x0 x5 t222 bt223.1 true) else (mandrelref04_Sign.j1 k x0 x5 t222 bt223.1 (bt223.1 == 2)))))
def mandrelref04_Sign.j1 : Nat → Int → ByteArray → Int → Int → Bool → Option (List Int × Int × Bool)
  | 0, _, _, _, _, _ => none
  | k + 1, x0, x5, x6, x7, x27 => if x27 = true then (some (([] : List Int), x6, true)) else (if x5.toList = ([109, 101, 109, 111, 114, 121, 46, 115, 105, 122, 101] : List UInt8) then (some (([] : List Int), 127, true)) else (if x5.toList = ([109, 101, 109, 111, 114, 121, 46, 103, 114, 111, 119] : List UInt8) then (some ((([127] : List Int)), 127, true)) else (if x7 = 4 then (if 4 ≤ (x5.size : Int) then ((mandrelref04_has.f (x5.extract 4 x5.size) (⟨#[108, 111, 97, 100]⟩ : ByteArray)).bind fun t228 => (mandrelref04_Sign.j2 k x0 x6 x7 t228)) else (none)) else (mandrelref04_Sign.j2 k x0 x6 x7 false))))
def mandrelref04_Sign.j2 : Nat → Int → Int → Int → Bool → Option (List Int × Int × Bool)
  | 0, _, _, _, _ => none
  | k + 1, x0, x6, x7, x42 => if x42 = true then (some ((([127] : List Int)), x6, true)) else (if x7 = 4 then (some ((([127, x6] : List Int)), 0, true)) else ((mandrelref02_Name.f k x0).bind fun bt235 => (if bt235.2 = 64 then (mandrelref04_Sign.j3 k bt235.1 126) else (mandrelref04_Sign.j3 k bt235.1 127))))
def mandrelref04_Sign.j3 : Nat → ByteArray → Int → Option (List Int × Int × Bool)
  | 0, _, _ => none
  | k + 1, x9, x11 => if x9.toList = ([119, 114, 97, 112] : List UInt8) then (some ((([126] : List Int)), 127, true)) else (if x9.toList = ([101, 120, 116, 101, 110, 100, 95, 115] : List UInt8) then (mandrelref04_Sign.j4 k x11 x9 (x9.toList == ([101, 120, 116, 101, 110, 100, 95, 115] : List UInt8))) else (mandrelref04_Sign.j4 k x11 x9 (x9.toList == ([101, 120, 116, 101, 110, 100, 95, 117] : List UInt8))))
def mandrelref04_Sign.j4 : Nat → Int → ByteArray → Bool → Option (List Int × Int × Bool)
  | 0, _, _, _ => none
  | k + 1, x11, x64, x68 => if x68 = true then (some ((([127] : List Int)), 126, true)) else (if x64.toList = ([101, 113, 122] : List UInt8) then (some ((([x11] : List Int)), 127, true)) else (if x64.toList = ([99, 108, 122] : List UInt8) then (mandrelref04_Sign.j5 k x11 x64 (x64.toList == ([99, 108, 122] : List UInt8))) else (if x64.toList = ([99, 116, 122] : List UInt8) then (mandrelref04_Sign.j5 k x11 x64 (x64.toList == ([99, 116, 122] : List UInt8))) else (mandrelref04_Sign.j5 k x11 x64 (x64.toList == ([112, 111, 112, 99, 110, 116] : List UInt8))))))
def mandrelref04_Sign.j5 : Nat → Int → ByteArray → Bool → Option (List Int × Int × Bool)
  | 0, _, _, _ => none
  | k + 1, x11, x64, x76 => if x76 = true then (some ((([x11] : List Int)), x11, true)) else (if x64.toList = ([101, 113] : List UInt8) then (some ((([x11, x11] : List Int)), 127, true)) else (if x64.toList = ([110, 101] : List UInt8) then (some ((([x11, x11] : List Int)), 127, true)) else (if x64.toList = ([108, 116, 95, 115] : List UInt8) then (some ((([x11, x11] : List Int)), 127, true)) else (if x64.toList = ([108, 116, 95, 117] : List UInt8) then (some ((([x11, x11] : List Int)), 127, true)) else (if x64.toList = ([103, 116, 95, 115] : List UInt8) then (some ((([x11, x11] : List Int)), 127, true)) else (if x64.toList = ([103, 116, 95, 117] : List UInt8) then (some ((([x11, x11] : List Int)), 127, true)) else (if x64.toList = ([108, 101, 95, 115] : List UInt8) then (some ((([x11, x11] : List Int)), 127, true)) else (if x64.toList = ([108, 101, 95, 117] : List UInt8) then (some ((([x11, x11] : List Int)), 127, true)) else (if x64.toList = ([103, 101, 95, 115] : List UInt8) then (some ((([x11, x11] : List Int)), 127, true)) else (if x64.toList = ([103, 101, 95, 117] : List UInt8) then (some ((([x11, x11] : List Int)), 127, true)) else (some ((([x11, x11] : List Int)), x11, true))))))))))))
end
def mandrelref04_Sign.f (k : Nat) (a0 : Int) : Option (List Int × Int × Bool) := (mandrelref04_Name.f k a0).bind fun t221 => (if t221.toList = ([] : List UInt8) then (mandrelref04_Sign.j0 k a0 t221 true) else (mandrelref04_Sign.j0 k a0 t221 (decide (a0 ≤ 36))))
set_option maxHeartbeats 8000000 in
set_option maxRecDepth 100000 in
theorem mandrelref04_Sign.calls (k : Nat) (a0 : Int) (r1 : List Int) (r2 : Int) (r3 : Bool) (w : World) (hG : GG [] w) (h : mandrelref04_Sign.f k a0 = some (r1, r2, r3)) :
    Calls Tryd.prog 21 #[.int .u8 a0] w fun e w' => ∃ v0_ : Value, e = .returned (.tuple #[v0_, .int .u8 r2, .bool r3]) ∧ Kd.R (Kd.int .u8) 5 w' w.heap.size (fun _ => True) v0_ r1 ∧ Below w.heap.size w w' := by
  have HB := Aside0.mk (Below.refl w.heap.size w)
  have HG := Aside0.mk hG
  clear hG
  have H : ((mandrelref04_Name.f k a0).bind fun t221 => (if t221.toList = ([] : List UInt8) then (mandrelref04_Sign.j0 k a0 t221 true) else (mandrelref04_Sign.j0 k a0 t221 (decide (a0 ≤ 36))))) = some (r1, r2, r3) := h
  clear h
  replace H := Option.bind_eq_some_iff.mp H
  obtain ⟨t221, A20, H⟩ := H
  replace H : (if t221.toList = ([] : List UInt8) then (mandrelref04_Sign.j0 k a0 t221 true) else (mandrelref04_Sign.j0 k a0 t221 (decide (a0 ≤ 36)))) = some (r1, r2, r3) := H
  have A2 := Aside0.mk A20
  clear A20
  have HC3 := Aside0.mk H
  clear H
  go_enter Tryd.func21, Tryd.ntmps21
  go_upto_region 2 with (first | ((with_reducible refine gate_callee (f := 13) rfl ?_); refine goesL_ (some 13) rfl rfl Tryd.func13 (by kernel_rfl) rfl #[.int .u8 a0] rfl (by (try simp only [List.map_toArray, List.map_cons, List.map_nil]); first | done | rfl | (simp only [List.length_drop, List.length_take]; rfl)) ?_; (with_reducible refine (mandrelref04_Name.calls k a0 t221 _ ?side1 A2.out).mono ?_); (case side1 => exact GG.nil _); rintro e w4 ⟨rfl, hb⟩; refine ⟨_, rfl, ?_⟩; have n0_ := Aside0.mk (below_step (by repeat first | exact HB.out | apply below_alloc | apply pw_below_drewN | apply below_drew1) hb); clear HB; have HB := n0_; clear n0_; (try clear hb); (try clear hb2); (try clear hk); (try clear hi)))
  (try simp only [Act.put, List.setIfInBounds_toArray, List.set_cons_zero, List.set_cons_succ])
  go_cut [19] (fun v19 wc => ∃ (kq : Nat) (x19_2 : Bool), v19 = .bool x19_2 ∧ Aside0 (mandrelref04_Sign.j0 kq a0 t221 x19_2 = some (r1, r2, r3)) ∧ Aside0 (kq ≤ k) ∧ Aside0 (Below w.heap.size w wc))
  case first =>
    have H := HC3.out
    clear HC3
    by_cases c5 : t221.toList = ([] : List UInt8)
    · rw [if_pos c5] at H
      have c5b0 : (t221.toList == ([] : List UInt8)) = true := beq_iff_eq.mpr c5
      have c5b1 : (t221.toList != ([] : List UInt8)) = false := bne_eq_false_iff_eq.mpr c5
      clear c5
      (first | rw [c5b0] | (simp only [i64_w, i32_w]; rw [c5b0]) | skip)
      have H' := Aside0.mk H
      clear H
      go_wp2
      go_meet
      case rel => exact ⟨_, (true), (by first | rfl | (simp; done) | (simp [*]; done)), H', ⟨by first | omega | exact Nat.le_refl _⟩, ⟨by repeat first | exact HB.out | apply below_alloc | apply pw_below_drewN | apply below_drew1⟩⟩
    · rw [if_neg c5] at H
      have c5b0 : (t221.toList == ([] : List UInt8)) = false := beq_eq_false_iff_ne.mpr c5
      have c5b1 : (t221.toList != ([] : List UInt8)) = true := bne_iff_ne.mpr c5
      (first | rw [c5b0] | (simp only [i64_w, i32_w]; rw [c5b0]) | skip)
      have H' := Aside0.mk H
      clear H
      go_wp2
      go_meet
      case rel => exact ⟨_, (decide (a0 ≤ 36)), (by first | rfl | (simp; done) | (simp [*]; done)), H', ⟨by first | omega | exact Nat.le_refl _⟩, ⟨by repeat first | exact HB.out | apply below_alloc | apply pw_below_drewN | apply below_drew1⟩⟩
  case rest =>
    clear HC3
    try clear c1
    try clear c2
    try clear p2
    try clear c5
    try clear c5b0
    try clear c5b1
    obtain ⟨kq, x19_2, rfl, HA, HJ2, HB⟩ := hcut
    cases kq with
    | zero => exact absurd HA.out (by simp [mandrelref04_Sign.j0])
    | succ kj2 =>
      have H := HA.out
      clear HA
      simp only [mandrelref04_Sign.j0] at H
      by_cases c6 : x19_2 = true
      · subst c6
        have H1 : (some (([] : List Int), 0, false)) = some (r1, r2, r3) := by rw [if_pos rfl] at H; exact H
        clear H
        have H := H1
        clear H1
        simp only [Option.some.injEq, Prod.mk.injEq] at H
        obtain ⟨rfl, rfl, rfl⟩ := H
        go_wp2
        go_ret3
        exact ⟨_, by first | rfl | (simp [errW_none, errW_some] <;> rfl) | (simp [*, errW_none, errW_some] <;> rfl), by first | exact Kd.R_nil _ _ _ _ _ | exact Kd.N_nil _ _ _ _ _ | exact Kd.V_nil _ _ _ _ _ | exact Kd.Q_nil _ _ _ _ _ | exact Kd.S_nil _ _ _ _ _, by repeat first | exact HB.out | apply below_alloc | apply pw_below_drewN | apply below_drew1⟩
      · replace c6 := Bool.eq_false_iff.mpr c6
        subst c6
        have H1 : ((mandrelref04_Kind.f t221).bind fun t222 => ((mandrelref04_Form.f kj2 a0).bind fun bt223 => (if bt223.1 = 1 then (mandrelref04_Sign.j1 kj2 a0 t221 t222 bt223.1 true) else (mandrelref04_Sign.j1 kj2 a0 t221 t222 bt223.1 (bt223.1 == 2))))) = some (r1, r2, r3) := by rw [if_neg (show ¬ (false = true) by decide)] at H; exact H
        clear H
        have H := H1
        clear H1
        replace H := Option.bind_eq_some_iff.mp H
        obtain ⟨t222, A70, H⟩ := H
        replace H : ((mandrelref04_Form.f kj2 a0).bind fun bt223 => (if bt223.1 = 1 then (mandrelref04_Sign.j1 kj2 a0 t221 t222 bt223.1 true) else (mandrelref04_Sign.j1 kj2 a0 t221 t222 bt223.1 (bt223.1 == 2)))) = some (r1, r2, r3) := H
        have A7 := Aside0.mk A70
        clear A70
        replace H := Option.bind_eq_some_iff.mp H
        obtain ⟨⟨t223, t224⟩, A80, H⟩ := H
        replace H : (if t223 = 1 then (mandrelref04_Sign.j1 kj2 a0 t221 t222 t223 true) else (mandrelref04_Sign.j1 kj2 a0 t221 t222 t223 (t223 == 2))) = some (r1, r2, r3) := H
        have A8 := Aside0.mk A80
        clear A80
        have HC9 := Aside0.mk H
        clear H
        go_upto_region 6 with (first | ((with_reducible refine gate_callee (f := 58) rfl ?_); refine goesL_ (some 21) rfl rfl Tryd.func58 (by kernel_rfl) rfl #[.string t221] rfl (by (try simp only [List.map_toArray, List.map_cons, List.map_nil]); first | done | rfl | (simp only [List.length_drop, List.length_take]; rfl)) ?_; (with_reducible refine (mandrelref04_Kind.calls t221 t222 _ ?side1 A7.out).mono ?_); (case side1 => exact GG.nil _); rintro e w' ⟨rfl, ⟨nd, rfl⟩⟩; refine ⟨_, rfl, ?_⟩) | ((with_reducible refine gate_callee (f := 19) rfl ?_); refine goesL_ (some 24) rfl rfl Tryd.func19 (by kernel_rfl) rfl #[.int .u8 a0] rfl (by (try simp only [List.map_toArray, List.map_cons, List.map_nil]); first | done | rfl | (simp only [List.length_drop, List.length_take]; rfl)) ?_; (with_reducible refine (mandrelref04_Form.calls kj2 a0 t223 t224 _ ?side1 A8.out).mono ?_); (case side1 => exact GG.nil _); rintro e w10 ⟨rfl, hb⟩; refine ⟨_, rfl, ?_⟩; have n0_ := Aside0.mk (below_step (by repeat first | exact HB.out | apply below_alloc | apply pw_below_drewN | apply below_drew1) hb); clear HB; have HB := n0_; clear n0_; (try clear hb); (try clear hb2); (try clear hk); (try clear hi)))
        (try simp only [Act.put, List.setIfInBounds_toArray, List.set_cons_zero, List.set_cons_succ])
        go_cut [27] (fun v27 wc => ∃ (kq : Nat) (x27_8 : Bool), v27 = .bool x27_8 ∧ Aside0 (mandrelref04_Sign.j1 kq a0 t221 t222 t223 x27_8 = some (r1, r2, r3)) ∧ Aside0 (kq ≤ kj2) ∧ Aside0 (Below w.heap.size w wc))
        case first =>
          have H := HC9.out
          clear HC9
          by_cases c11 : t223 = 1
          · rw [if_pos c11] at H
            have c11b0 : (t223 == 1) = true := beq_iff_eq.mpr c11
            have c11b1 : (t223 != 1) = false := bne_eq_false_iff_eq.mpr c11
            clear c11
            (first | rw [c11b0] | (simp only [i64_w, i32_w]; rw [c11b0]) | skip)
            have H' := Aside0.mk H
            clear H
            go_wp2
            go_meet
            case rel => exact ⟨_, (true), (by first | rfl | (simp; done) | (simp [*]; done)), H', ⟨by have := HJ2.out; first | omega | exact Nat.le_refl _⟩, ⟨by repeat first | exact HB.out | apply below_alloc | apply pw_below_drewN | apply below_drew1⟩⟩
          · rw [if_neg c11] at H
            have c11b0 : (t223 == 1) = false := beq_eq_false_iff_ne.mpr c11
            have c11b1 : (t223 != 1) = true := bne_iff_ne.mpr c11
            (first | rw [c11b0] | (simp only [i64_w, i32_w]; rw [c11b0]) | skip)
            have H' := Aside0.mk H
            clear H
            go_wp2
            go_meet
            case rel => exact ⟨_, ((t223 == 2)), (by first | rfl | (simp; done) | (simp [*]; done)), H', ⟨by have := HJ2.out; first | omega | exact Nat.le_refl _⟩, ⟨by repeat first | exact HB.out | apply below_alloc | apply pw_below_drewN | apply below_drew1⟩⟩
        case rest =>
          clear HC9
          try clear c1
          try clear c2
          try clear p2
          try clear c5
          try clear c5b0
          try clear c5b1
          try clear c6
          try clear c11
          try clear c11b0
          try clear c11b1
          try clear p2
          obtain ⟨kq, x27_8, rfl, HA, HJ8, HB⟩ := hcut
          cases kq with
          | zero => exact absurd HA.out (by simp [mandrelref04_Sign.j1])
          | succ kj8 =>
            have H := HA.out
            clear HA
            simp only [mandrelref04_Sign.j1] at H
            by_cases c12 : x27_8 = true
            · subst c12
              have H1 : (some (([] : List Int), t222, true)) = some (r1, r2, r3) := by rw [if_pos rfl] at H; exact H
              clear H
              have H := H1
              clear H1
              simp only [Option.some.injEq, Prod.mk.injEq] at H
              obtain ⟨rfl, rfl, rfl⟩ := H
              go_wp2
              go_ret3
              exact ⟨_, by first | rfl | (simp [errW_none, errW_some] <;> rfl) | (simp [*, errW_none, errW_some] <;> rfl), by first | exact Kd.R_nil _ _ _ _ _ | exact Kd.N_nil _ _ _ _ _ | exact Kd.V_nil _ _ _ _ _ | exact Kd.Q_nil _ _ _ _ _ | exact Kd.S_nil _ _ _ _ _, by repeat first | exact HB.out | apply below_alloc | apply pw_below_drewN | apply below_drew1⟩
            · replace c12 := Bool.eq_false_iff.mpr c12
              subst c12
              have H1 : (if t221.toList = ([109, 101, 109, 111, 114, 121, 46, 115, 105, 122, 101] : List UInt8) then (some (([] : List Int), 127, true)) else (if t221.toList = ([109, 101, 109, 111, 114, 121, 46, 103, 114, 111, 119] : List UInt8) then (some ((([127] : List Int)), 127, true)) else (if t223 = 4 then (if 4 ≤ (t221.size : Int) then ((mandrelref04_has.f (t221.extract 4 t221.size) (⟨#[108, 111, 97, 100]⟩ : ByteArray)).bind fun t228 => (mandrelref04_Sign.j2 kj8 a0 t222 t223 t228)) else (none)) else (mandrelref04_Sign.j2 kj8 a0 t222 t223 false)))) = some (r1, r2, r3) := by rw [if_neg (show ¬ (false = true) by decide)] at H; exact H
              clear H
              have H := H1
              clear H1
              by_cases c13 : t221.toList = ([109, 101, 109, 111, 114, 121, 46, 115, 105, 122, 101] : List UInt8)
              · rw [if_pos c13] at H
                have c13b0 : (t221.toList == ([109, 101, 109, 111, 114, 121, 46, 115, 105, 122, 101] : List UInt8)) = true := beq_iff_eq.mpr c13
                have c13b1 : (t221.toList != ([109, 101, 109, 111, 114, 121, 46, 115, 105, 122, 101] : List UInt8)) = false := bne_eq_false_iff_eq.mpr c13
                clear c13
                simp only [Option.some.injEq, Prod.mk.injEq] at H
                obtain ⟨rfl, rfl, rfl⟩ := H
                go_wp2
                go_ret3
                exact ⟨_, by first | rfl | (simp [errW_none, errW_some] <;> rfl) | (simp [*, errW_none, errW_some] <;> rfl), by first | exact Kd.R_nil _ _ _ _ _ | exact Kd.N_nil _ _ _ _ _ | exact Kd.V_nil _ _ _ _ _ | exact Kd.Q_nil _ _ _ _ _ | exact Kd.S_nil _ _ _ _ _, by repeat first | exact HB.out | apply below_alloc | apply pw_below_drewN | apply below_drew1⟩
              · rw [if_neg c13] at H
                have c13b0 : (t221.toList == ([109, 101, 109, 111, 114, 121, 46, 115, 105, 122, 101] : List UInt8)) = false := beq_eq_false_iff_ne.mpr c13
                have c13b1 : (t221.toList != ([109, 101, 109, 111, 114, 121, 46, 115, 105, 122, 101] : List UInt8)) = true := bne_iff_ne.mpr c13
                by_cases c14 : t221.toList = ([109, 101, 109, 111, 114, 121, 46, 103, 114, 111, 119] : List UInt8)
                · rw [if_pos c14] at H
                  have c14b0 : (t221.toList == ([109, 101, 109, 111, 114, 121, 46, 103, 114, 111, 119] : List UInt8)) = true := beq_iff_eq.mpr c14
                  have c14b1 : (t221.toList != ([109, 101, 109, 111, 114, 121, 46, 103, 114, 111, 119] : List UInt8)) = false := bne_eq_false_iff_eq.mpr c14
                  clear c14
                  obtain ⟨y225, hy225⟩ : ∃ y_ : List Int, y_ = (([127] : List Int)) := ⟨_, rfl⟩
                  replace H : (some (y225, 127, true)) = some (r1, r2, r3) := by first | (rw [hy225]; with_reducible exact H) | (have H2_ := (Option.bind_some _ _).symm.trans H; rw [hy225]; with_reducible exact H2_) | (have H2_ := (Option.bind_some _ _).symm.trans H; with_reducible exact H2_) | with_reducible exact H | (rw [hy225]; exact H) | exact H
                  have Ny225 := Aside0.mk hy225
                  clear hy225
                  simp only [Option.some.injEq, Prod.mk.injEq] at H
                  obtain ⟨rfl, rfl, rfl⟩ := H
                  go_wp2_with (first | ((with_reducible refine gate_dst (N := 41) rfl ?_); refine Kd.R_lit (Kd.int .u8) _ 5 ?hg (N := 41) ?hd (xs := ([127] : List Int)) (inner := [.int .u8 127]) (ok := fun _ => True) (okp := fun _ => True) ?hr ?hp (fun _ hk => hk) trivial (Below.refl _ _) (Nat.le_refl _) (by simp) ?_; (case hd => rfl); (case hg => rfl); (case hr => first | (go_simp; done) | (go_simp; rfl)); (case hp => exact (Reps.one (show Kd.M (Kd.int .u8) _ _ _ 127 [.int .u8 127] from rfl) (Reps.none _ _))); intro v226 w15 ho16 hb hg_ hnew_; clear hg_ hnew_; (first | rw [← Ny225.out] at ho16 | (simp only [Int.reduceToNat] at ho16; rw [← Ny225.out] at ho16)); have n0_ := Aside0.mk (Kd.R_lower ho16 (below_size (by repeat first | exact HB.out | apply below_alloc | apply pw_below_drewN | apply below_drew1))); have n1_ := Aside0.mk (below_step (by repeat first | exact HB.out | apply below_alloc | apply pw_below_drewN | apply below_drew1) hb); clear HB; have HO227 := n0_; have HB := n1_; clear n0_ n1_; clear hb ho16))
                  go_ret3
                  exact ⟨_, by first | rfl | (simp [errW_none, errW_some] <;> rfl) | (simp [*, errW_none, errW_some] <;> rfl), by (with_reducible repeat (first | apply Kd.R_alloc | apply Kd.R_drewN | apply Kd.R_drew)); exact HO227.out, by repeat first | exact HB.out | apply below_alloc | apply pw_below_drewN | apply below_drew1⟩
                · rw [if_neg c14] at H
                  have c14b0 : (t221.toList == ([109, 101, 109, 111, 114, 121, 46, 103, 114, 111, 119] : List UInt8)) = false := beq_eq_false_iff_ne.mpr c14
                  have c14b1 : (t221.toList != ([109, 101, 109, 111, 114, 121, 46, 103, 114, 111, 119] : List UInt8)) = true := bne_iff_ne.mpr c14
                  have HC17 := Aside0.mk H
                  clear H
                  go_upto_region 12 with (fail)
                  go_cut [42] (fun v42 wc => ∃ (kq : Nat) (x42_16 : Bool), v42 = .bool x42_16 ∧ Aside0 (mandrelref04_Sign.j2 kq a0 t222 t223 x42_16 = some (r1, r2, r3)) ∧ Aside0 (kq ≤ kj8) ∧ Aside0 (Below w.heap.size w wc))
                  case first =>
                    have H := HC17.out
                    clear HC17
                    by_cases c18 : t223 = 4
                    · rw [if_pos c18] at H
                      have c18b0 : (t223 == 4) = true := beq_iff_eq.mpr c18
                      have c18b1 : (t223 != 4) = false := bne_eq_false_iff_eq.mpr c18
                      clear c18
                      (first | rw [c18b0] | (simp only [i64_w, i32_w]; rw [c18b0]) | skip)
                      by_cases c19 : 4 ≤ (t221.size : Int)
                      · rw [if_pos c19] at H
                        have c19b0 := eq_true c19
                        have c19b1 : decide (4 ≤ (t221.size : Int)) = true := decide_eq_true c19
                        clear c19
                        replace H := Option.bind_eq_some_iff.mp H
                        obtain ⟨t228, A200, H⟩ := H
                        replace H : (mandrelref04_Sign.j2 kj8 a0 t222 t223 t228) = some (r1, r2, r3) := H
                        have A20 := Aside0.mk A200
                        clear A200
                        have H' := Aside0.mk H
                        clear H
                        go_wp2_with (first | (go_at_call 55; (with_reducible refine (mandrelref04_has.calls (t221.extract 4 t221.size) (⟨#[108, 111, 97, 100]⟩ : ByteArray) t228 _ ?side1 A20.out).mono ?_); (case side1 => exact GG.nil _); rintro e w' ⟨rfl, ⟨nd, rfl⟩⟩))
                        go_meet
                        case rel => exact ⟨_, (t228), (by first | rfl | (simp; done) | (simp [*]; done)), H', ⟨by have := HJ2.out; have := HJ8.out; first | omega | exact Nat.le_refl _⟩, ⟨by repeat first | exact HB.out | apply below_alloc | apply pw_below_drewN | apply below_drew1⟩⟩
                      · rw [if_neg c19] at H
                        exact absurd H (by simp)
                    · rw [if_neg c18] at H
                      have c18b0 : (t223 == 4) = false := beq_eq_false_iff_ne.mpr c18
                      have c18b1 : (t223 != 4) = true := bne_iff_ne.mpr c18
                      (first | rw [c18b0] | (simp only [i64_w, i32_w]; rw [c18b0]) | skip)
                      have H' := Aside0.mk H
                      clear H
                      go_wp2
                      go_meet
                      case rel => exact ⟨_, (false), (by first | rfl | (simp; done) | (simp [*]; done)), H', ⟨by have := HJ2.out; have := HJ8.out; first | omega | exact Nat.le_refl _⟩, ⟨by repeat first | exact HB.out | apply below_alloc | apply pw_below_drewN | apply below_drew1⟩⟩
                  case rest =>
                    clear HC17
                    try clear c1
                    try clear c2
                    try clear p2
                    try clear c5
                    try clear c5b0
                    try clear c5b1
                    try clear c6
                    try clear c11
                    try clear c11b0
                    try clear c11b1
                    try clear c12
                    try clear c13
                    try clear c13b0
                    try clear c13b1
                    try clear c14
                    try clear c14b0
                    try clear c14b1
                    try clear c18
                    try clear c18b0
                    try clear c18b1
                    try clear c19
                    try clear c19b0
                    try clear c19b1
                    try clear p2
                    obtain ⟨kq, x42_16, rfl, HA, HJ16, HB⟩ := hcut
                    cases kq with
                    | zero => exact absurd HA.out (by simp [mandrelref04_Sign.j2])
                    | succ kj16 =>
                      have H := HA.out
                      clear HA
                      simp only [mandrelref04_Sign.j2] at H
                      by_cases c21 : x42_16 = true
                      · subst c21
                        have H1 : (some ((([127] : List Int)), t222, true)) = some (r1, r2, r3) := by rw [if_pos rfl] at H; exact H
                        clear H
                        have H := H1
                        clear H1
                        obtain ⟨y229, hy229⟩ : ∃ y_ : List Int, y_ = (([127] : List Int)) := ⟨_, rfl⟩
                        replace H : (some (y229, t222, true)) = some (r1, r2, r3) := by first | (rw [hy229]; with_reducible exact H) | (have H2_ := (Option.bind_some _ _).symm.trans H; rw [hy229]; with_reducible exact H2_) | (have H2_ := (Option.bind_some _ _).symm.trans H; with_reducible exact H2_) | with_reducible exact H | (rw [hy229]; exact H) | exact H
                        have Ny229 := Aside0.mk hy229
                        clear hy229
                        simp only [Option.some.injEq, Prod.mk.injEq] at H
                        obtain ⟨rfl, rfl, rfl⟩ := H
                        go_wp2_with (first | ((with_reducible refine gate_dst (N := 50) rfl ?_); refine Kd.R_lit (Kd.int .u8) _ 5 ?hg (N := 50) ?hd (xs := ([127] : List Int)) (inner := [.int .u8 127]) (ok := fun _ => True) (okp := fun _ => True) ?hr ?hp (fun _ hk => hk) trivial (Below.refl _ _) (Nat.le_refl _) (by simp) ?_; (case hd => rfl); (case hg => rfl); (case hr => first | (go_simp; done) | (go_simp; rfl)); (case hp => exact (Reps.one (show Kd.M (Kd.int .u8) _ _ _ 127 [.int .u8 127] from rfl) (Reps.none _ _))); intro v230 w22 ho23 hb hg_ hnew_; clear hg_ hnew_; (first | rw [← Ny229.out] at ho23 | (simp only [Int.reduceToNat] at ho23; rw [← Ny229.out] at ho23)); have n0_ := Aside0.mk (Kd.R_lower ho23 (below_size (by repeat first | exact HB.out | apply below_alloc | apply pw_below_drewN | apply below_drew1))); have n1_ := Aside0.mk (below_step (by repeat first | exact HB.out | apply below_alloc | apply pw_below_drewN | apply below_drew1) hb); clear HB; have HO231 := n0_; have HB := n1_; clear n0_ n1_; clear hb ho23))
                        go_ret3
                        exact ⟨_, by first | rfl | (simp [errW_none, errW_some] <;> rfl) | (simp [*, errW_none, errW_some] <;> rfl), by (with_reducible repeat (first | apply Kd.R_alloc | apply Kd.R_drewN | apply Kd.R_drew)); exact HO231.out, by repeat first | exact HB.out | apply below_alloc | apply pw_below_drewN | apply below_drew1⟩
                      · replace c21 := Bool.eq_false_iff.mpr c21
                        subst c21
                        have H1 : (if t223 = 4 then (some ((([127, t222] : List Int)), 0, true)) else ((mandrelref02_Name.f kj16 a0).bind fun bt235 => (if bt235.2 = 64 then (mandrelref04_Sign.j3 kj16 bt235.1 126) else (mandrelref04_Sign.j3 kj16 bt235.1 127)))) = some (r1, r2, r3) := by rw [if_neg (show ¬ (false = true) by decide)] at H; exact H
                        clear H
                        have H := H1
                        clear H1
                        by_cases c24 : t223 = 4
                        · rw [if_pos c24] at H
                          have c24b0 : (t223 == 4) = true := beq_iff_eq.mpr c24
                          have c24b1 : (t223 != 4) = false := bne_eq_false_iff_eq.mpr c24
                          clear c24
                          obtain ⟨y232, hy232⟩ : ∃ y_ : List Int, y_ = (([127, t222] : List Int)) := ⟨_, rfl⟩
                          replace H : (some (y232, 0, true)) = some (r1, r2, r3) := by first | (rw [hy232]; with_reducible exact H) | (have H2_ := (Option.bind_some _ _).symm.trans H; rw [hy232]; with_reducible exact H2_) | (have H2_ := (Option.bind_some _ _).symm.trans H; with_reducible exact H2_) | with_reducible exact H | (rw [hy232]; exact H) | exact H
                          have Ny232 := Aside0.mk hy232
                          clear hy232
                          simp only [Option.some.injEq, Prod.mk.injEq] at H
                          obtain ⟨rfl, rfl, rfl⟩ := H
                          go_wp2_with (first | ((with_reducible refine gate_dst (N := 56) rfl ?_); refine Kd.R_lit (Kd.int .u8) _ 5 ?hg (N := 56) ?hd (xs := ([127, t222] : List Int)) (inner := [.int .u8 127, .int .u8 t222]) (ok := fun _ => True) (okp := fun _ => True) ?hr ?hp (fun _ hk => hk) trivial (Below.refl _ _) (Nat.le_refl _) (by simp) ?_; (case hd => rfl); (case hg => rfl); (case hr => first | (go_simp; done) | (go_simp; rfl)); (case hp => exact (Reps.one (show Kd.M (Kd.int .u8) _ _ _ 127 [.int .u8 127] from rfl) (Reps.one (show Kd.M (Kd.int .u8) _ _ _ t222 [.int .u8 t222] from rfl) (Reps.none _ _)))); intro v233 w25 ho26 hb hg_ hnew_; clear hg_ hnew_; (first | rw [← Ny232.out] at ho26 | (simp only [Int.reduceToNat] at ho26; rw [← Ny232.out] at ho26)); have n0_ := Aside0.mk (Kd.R_lower ho26 (below_size (by repeat first | exact HB.out | apply below_alloc | apply pw_below_drewN | apply below_drew1))); have n1_ := Aside0.mk (below_step (by repeat first | exact HB.out | apply below_alloc | apply pw_below_drewN | apply below_drew1) hb); clear HB; have HO234 := n0_; have HB := n1_; clear n0_ n1_; clear hb ho26))
                          go_ret3
                          exact ⟨_, by first | rfl | (simp [errW_none, errW_some] <;> rfl) | (simp [*, errW_none, errW_some] <;> rfl), by (with_reducible repeat (first | apply Kd.R_alloc | apply Kd.R_drewN | apply Kd.R_drew)); exact HO234.out, by repeat first | exact HB.out | apply below_alloc | apply pw_below_drewN | apply below_drew1⟩
                        · rw [if_neg c24] at H
                          have c24b0 : (t223 == 4) = false := beq_eq_false_iff_ne.mpr c24
                          have c24b1 : (t223 != 4) = true := bne_iff_ne.mpr c24
                          replace H := Option.bind_eq_some_iff.mp H
                          obtain ⟨⟨t235, t236⟩, A270, H⟩ := H
                          replace H : (if t236 = 64 then (mandrelref04_Sign.j3 kj16 t235 126) else (mandrelref04_Sign.j3 kj16 t235 127)) = some (r1, r2, r3) := H
                          have A27 := Aside0.mk A270
                          clear A270
                          have HC28 := Aside0.mk H
                          clear H
                          go_upto_if 63 with (first | ((with_reducible refine gate_callee (f := 53) rfl ?_); refine goesL_ (some 59) rfl rfl Tryd.func53 (by kernel_rfl) rfl #[.int .u8 a0] rfl (by (try simp only [List.map_toArray, List.map_cons, List.map_nil]); first | done | rfl | (simp only [List.length_drop, List.length_take]; rfl)) ?_; (with_reducible refine (mandrelref02_Name.calls kj16 a0 t235 t236 _ ?side1 A27.out).mono ?_); (case side1 => exact GG.nil _); rintro e w29 ⟨rfl, hb⟩; refine ⟨_, rfl, ?_⟩; have n0_ := Aside0.mk (below_step (by repeat first | exact HB.out | apply below_alloc | apply pw_below_drewN | apply below_drew1) hb); clear HB; have HB := n0_; clear n0_; (try clear hb); (try clear hb2); (try clear hk); (try clear hi)))
                          (try simp only [Act.put, List.setIfInBounds_toArray, List.set_cons_zero, List.set_cons_succ])
                          go_cut [11] (fun v11 wc => ∃ (kq : Nat) (x11_27 : Int), v11 = .int .u8 x11_27 ∧ Aside0 (mandrelref04_Sign.j3 kq t235 x11_27 = some (r1, r2, r3)) ∧ Aside0 (kq ≤ kj16) ∧ Aside0 (Below w.heap.size w wc))
                          case first =>
                            have H := HC28.out
                            clear HC28
                            by_cases c30 : t236 = 64
                            · rw [if_pos c30] at H
                              have c30b0 : (t236 == 64) = true := beq_iff_eq.mpr c30
                              have c30b1 : (t236 != 64) = false := bne_eq_false_iff_eq.mpr c30
                              clear c30
                              (first | rw [c30b0] | (simp only [i64_w, i32_w]; rw [c30b0]) | skip)
                              have H' := Aside0.mk H
                              clear H
                              go_wp2
                              go_meet
                              case rel => exact ⟨_, (126), (by first | rfl | (simp; done) | (simp [*]; done)), H', ⟨by have := HJ2.out; have := HJ8.out; have := HJ16.out; first | omega | exact Nat.le_refl _⟩, ⟨by repeat first | exact HB.out | apply below_alloc | apply pw_below_drewN | apply below_drew1⟩⟩
                            · rw [if_neg c30] at H
                              have c30b0 : (t236 == 64) = false := beq_eq_false_iff_ne.mpr c30
                              have c30b1 : (t236 != 64) = true := bne_iff_ne.mpr c30
                              (first | rw [c30b0] | (simp only [i64_w, i32_w]; rw [c30b0]) | skip)
                              have H' := Aside0.mk H
                              clear H
                              go_wp2
                              go_meet
                              case rel => exact ⟨_, (127), (by first | rfl | (simp; done) | (simp [*]; done)), H', ⟨by have := HJ2.out; have := HJ8.out; have := HJ16.out; first | omega | exact Nat.le_refl _⟩, ⟨by repeat first | exact HB.out | apply below_alloc | apply pw_below_drewN | apply below_drew1⟩⟩
                          case rest =>
                            clear HC28
                            try clear c1
                            try clear c2
                            try clear p2
                            try clear c3
                            try clear c5
                            try clear c5b0
                            try clear c5b1
                            try clear c6
                            try clear c11
                            try clear c11b0
                            try clear c11b1
                            try clear c12
                            try clear c13
                            try clear c13b0
                            try clear c13b1
                            try clear c14
                            try clear c14b0
                            try clear c14b1
                            try clear c18
                            try clear c18b0
                            try clear c18b1
                            try clear c19
                            try clear c19b0
                            try clear c19b1
                            try clear c21
                            try clear c24
                            try clear c24b0
                            try clear c24b1
                            try clear c30
                            try clear c30b0
                            try clear c30b1
                            try clear p2
                            obtain ⟨kq, x11_27, rfl, HA, HJ27, HB⟩ := hcut
                            cases kq with
                            | zero => exact absurd HA.out (by simp [mandrelref04_Sign.j3])
                            | succ kj27 =>
                              have H := HA.out
                              clear HA
                              simp only [mandrelref04_Sign.j3] at H
                              by_cases c31 : t235.toList = ([119, 114, 97, 112] : List UInt8)
                              · rw [if_pos c31] at H
                                have c31b0 : (t235.toList == ([119, 114, 97, 112] : List UInt8)) = true := beq_iff_eq.mpr c31
                                have c31b1 : (t235.toList != ([119, 114, 97, 112] : List UInt8)) = false := bne_eq_false_iff_eq.mpr c31
                                clear c31
                                obtain ⟨y237, hy237⟩ : ∃ y_ : List Int, y_ = (([126] : List Int)) := ⟨_, rfl⟩
                                replace H : (some (y237, 127, true)) = some (r1, r2, r3) := by first | (rw [hy237]; with_reducible exact H) | (have H2_ := (Option.bind_some _ _).symm.trans H; rw [hy237]; with_reducible exact H2_) | (have H2_ := (Option.bind_some _ _).symm.trans H; with_reducible exact H2_) | with_reducible exact H | (rw [hy237]; exact H) | exact H
                                have Ny237 := Aside0.mk hy237
                                clear hy237
                                simp only [Option.some.injEq, Prod.mk.injEq] at H
                                obtain ⟨rfl, rfl, rfl⟩ := H
                                go_wp2_with (first | ((with_reducible refine gate_dst (N := 67) rfl ?_); refine Kd.R_lit (Kd.int .u8) _ 5 ?hg (N := 67) ?hd (xs := ([126] : List Int)) (inner := [.int .u8 126]) (ok := fun _ => True) (okp := fun _ => True) ?hr ?hp (fun _ hk => hk) trivial (Below.refl _ _) (Nat.le_refl _) (by simp) ?_; (case hd => rfl); (case hg => rfl); (case hr => first | (go_simp; done) | (go_simp; rfl)); (case hp => exact (Reps.one (show Kd.M (Kd.int .u8) _ _ _ 126 [.int .u8 126] from rfl) (Reps.none _ _))); intro v238 w32 ho33 hb hg_ hnew_; clear hg_ hnew_; (first | rw [← Ny237.out] at ho33 | (simp only [Int.reduceToNat] at ho33; rw [← Ny237.out] at ho33)); have n0_ := Aside0.mk (Kd.R_lower ho33 (below_size (by repeat first | exact HB.out | apply below_alloc | apply pw_below_drewN | apply below_drew1))); have n1_ := Aside0.mk (below_step (by repeat first | exact HB.out | apply below_alloc | apply pw_below_drewN | apply below_drew1) hb); clear HB; have HO239 := n0_; have HB := n1_; clear n0_ n1_; clear hb ho33))
                                go_ret3
                                exact ⟨_, by first | rfl | (simp [errW_none, errW_some] <;> rfl) | (simp [*, errW_none, errW_some] <;> rfl), by (with_reducible repeat (first | apply Kd.R_alloc | apply Kd.R_drewN | apply Kd.R_drew)); exact HO239.out, by repeat first | exact HB.out | apply below_alloc | apply pw_below_drewN | apply below_drew1⟩
                              · rw [if_neg c31] at H
                                have c31b0 : (t235.toList == ([119, 114, 97, 112] : List UInt8)) = false := beq_eq_false_iff_ne.mpr c31
                                have c31b1 : (t235.toList != ([119, 114, 97, 112] : List UInt8)) = true := bne_iff_ne.mpr c31
                                have HC34 := Aside0.mk H
                                clear H
                                go_upto_if 68 with (fail)
                                go_cut [68] (fun v68 wc => ∃ (kq : Nat) (x68_33 : Bool), v68 = .bool x68_33 ∧ Aside0 (mandrelref04_Sign.j4 kq x11_27 t235 x68_33 = some (r1, r2, r3)) ∧ Aside0 (kq ≤ kj27) ∧ Aside0 (Below w.heap.size w wc))
                                case first =>
                                  have H := HC34.out
                                  clear HC34
                                  by_cases c35 : t235.toList = ([101, 120, 116, 101, 110, 100, 95, 115] : List UInt8)
                                  · rw [if_pos c35] at H
                                    have c35b0 : (t235.toList == ([101, 120, 116, 101, 110, 100, 95, 115] : List UInt8)) = true := beq_iff_eq.mpr c35
                                    have c35b1 : (t235.toList != ([101, 120, 116, 101, 110, 100, 95, 115] : List UInt8)) = false := bne_eq_false_iff_eq.mpr c35
                                    clear c35
                                    (first | rw [c35b0] | (simp only [i64_w, i32_w]; rw [c35b0]) | skip)
                                    have H' := Aside0.mk H
                                    clear H
                                    go_wp2
                                    go_meet
                                    case rel => exact ⟨_, ((t235.toList == ([101, 120, 116, 101, 110, 100, 95, 115] : List UInt8))), (by first | rfl | (simp; done) | (simp [*]; done)), H', ⟨by have := HJ2.out; have := HJ8.out; have := HJ16.out; have := HJ27.out; first | omega | exact Nat.le_refl _⟩, ⟨by repeat first | exact HB.out | apply below_alloc | apply pw_below_drewN | apply below_drew1⟩⟩
                                  · rw [if_neg c35] at H
                                    have c35b0 : (t235.toList == ([101, 120, 116, 101, 110, 100, 95, 115] : List UInt8)) = false := beq_eq_false_iff_ne.mpr c35
                                    have c35b1 : (t235.toList != ([101, 120, 116, 101, 110, 100, 95, 115] : List UInt8)) = true := bne_iff_ne.mpr c35
                                    (first | rw [c35b0] | (simp only [i64_w, i32_w]; rw [c35b0]) | skip)
                                    have H' := Aside0.mk H
                                    clear H
                                    go_wp2
                                    go_meet
                                    case rel => exact ⟨_, ((t235.toList == ([101, 120, 116, 101, 110, 100, 95, 117] : List UInt8))), (by first | rfl | (simp; done) | (simp [*]; done)), H', ⟨by have := HJ2.out; have := HJ8.out; have := HJ16.out; have := HJ27.out; first | omega | exact Nat.le_refl _⟩, ⟨by repeat first | exact HB.out | apply below_alloc | apply pw_below_drewN | apply below_drew1⟩⟩
                                case rest =>
                                  clear HC34
                                  try clear c1
                                  try clear c2
                                  try clear p2
                                  try clear c3
                                  try clear c5
                                  try clear c5b0
                                  try clear c5b1
                                  try clear c6
                                  try clear c11
                                  try clear c11b0
                                  try clear c11b1
                                  try clear c12
                                  try clear c13
                                  try clear c13b0
                                  try clear c13b1
                                  try clear c14
                                  try clear c14b0
                                  try clear c14b1
                                  try clear c18
                                  try clear c18b0
                                  try clear c18b1
                                  try clear c19
                                  try clear c19b0
                                  try clear c19b1
                                  try clear c21
                                  try clear c24
                                  try clear c24b0
                                  try clear c24b1
                                  try clear c30
                                  try clear c30b0
                                  try clear c30b1
                                  try clear c31
                                  try clear c31b0
                                  try clear c31b1
                                  try clear c35
                                  try clear c35b0
                                  try clear c35b1
                                  try clear p2
                                  obtain ⟨kq, x68_33, rfl, HA, HJ33, HB⟩ := hcut
                                  cases kq with
                                  | zero => exact absurd HA.out (by simp [mandrelref04_Sign.j4])
                                  | succ kj33 =>
                                    have H := HA.out
                                    clear HA
                                    simp only [mandrelref04_Sign.j4] at H
                                    by_cases c36 : x68_33 = true
                                    · subst c36
                                      have H1 : (some ((([127] : List Int)), 126, true)) = some (r1, r2, r3) := by rw [if_pos rfl] at H; exact H
                                      clear H
                                      have H := H1
                                      clear H1
                                      obtain ⟨y240, hy240⟩ : ∃ y_ : List Int, y_ = (([127] : List Int)) := ⟨_, rfl⟩
                                      replace H : (some (y240, 126, true)) = some (r1, r2, r3) := by first | (rw [hy240]; with_reducible exact H) | (have H2_ := (Option.bind_some _ _).symm.trans H; rw [hy240]; with_reducible exact H2_) | (have H2_ := (Option.bind_some _ _).symm.trans H; with_reducible exact H2_) | with_reducible exact H | (rw [hy240]; exact H) | exact H
                                      have Ny240 := Aside0.mk hy240
                                      clear hy240
                                      simp only [Option.some.injEq, Prod.mk.injEq] at H
                                      obtain ⟨rfl, rfl, rfl⟩ := H
                                      go_wp2_with (first | ((with_reducible refine gate_dst (N := 71) rfl ?_); refine Kd.R_lit (Kd.int .u8) _ 5 ?hg (N := 71) ?hd (xs := ([127] : List Int)) (inner := [.int .u8 127]) (ok := fun _ => True) (okp := fun _ => True) ?hr ?hp (fun _ hk => hk) trivial (Below.refl _ _) (Nat.le_refl _) (by simp) ?_; (case hd => rfl); (case hg => rfl); (case hr => first | (go_simp; done) | (go_simp; rfl)); (case hp => exact (Reps.one (show Kd.M (Kd.int .u8) _ _ _ 127 [.int .u8 127] from rfl) (Reps.none _ _))); intro v241 w37 ho38 hb hg_ hnew_; clear hg_ hnew_; (first | rw [← Ny240.out] at ho38 | (simp only [Int.reduceToNat] at ho38; rw [← Ny240.out] at ho38)); have n0_ := Aside0.mk (Kd.R_lower ho38 (below_size (by repeat first | exact HB.out | apply below_alloc | apply pw_below_drewN | apply below_drew1))); have n1_ := Aside0.mk (below_step (by repeat first | exact HB.out | apply below_alloc | apply pw_below_drewN | apply below_drew1) hb); clear HB; have HO242 := n0_; have HB := n1_; clear n0_ n1_; clear hb ho38))
                                      go_ret3
                                      exact ⟨_, by first | rfl | (simp [errW_none, errW_some] <;> rfl) | (simp [*, errW_none, errW_some] <;> rfl), by (with_reducible repeat (first | apply Kd.R_alloc | apply Kd.R_drewN | apply Kd.R_drew)); exact HO242.out, by repeat first | exact HB.out | apply below_alloc | apply pw_below_drewN | apply below_drew1⟩
                                    · replace c36 := Bool.eq_false_iff.mpr c36
                                      subst c36
                                      have H1 : (if t235.toList = ([101, 113, 122] : List UInt8) then (some ((([x11_27] : List Int)), 127, true)) else (if t235.toList = ([99, 108, 122] : List UInt8) then (mandrelref04_Sign.j5 kj33 x11_27 t235 (t235.toList == ([99, 108, 122] : List UInt8))) else (if t235.toList = ([99, 116, 122] : List UInt8) then (mandrelref04_Sign.j5 kj33 x11_27 t235 (t235.toList == ([99, 116, 122] : List UInt8))) else (mandrelref04_Sign.j5 kj33 x11_27 t235 (t235.toList == ([112, 111, 112, 99, 110, 116] : List UInt8)))))) = some (r1, r2, r3) := by rw [if_neg (show ¬ (false = true) by decide)] at H; exact H
                                      clear H
                                      have H := H1
                                      clear H1
                                      by_cases c39 : t235.toList = ([101, 113, 122] : List UInt8)
                                      · rw [if_pos c39] at H
                                        have c39b0 : (t235.toList == ([101, 113, 122] : List UInt8)) = true := beq_iff_eq.mpr c39
                                        have c39b1 : (t235.toList != ([101, 113, 122] : List UInt8)) = false := bne_eq_false_iff_eq.mpr c39
                                        clear c39
                                        obtain ⟨y243, hy243⟩ : ∃ y_ : List Int, y_ = (([x11_27] : List Int)) := ⟨_, rfl⟩
                                        replace H : (some (y243, 127, true)) = some (r1, r2, r3) := by first | (rw [hy243]; with_reducible exact H) | (have H2_ := (Option.bind_some _ _).symm.trans H; rw [hy243]; with_reducible exact H2_) | (have H2_ := (Option.bind_some _ _).symm.trans H; with_reducible exact H2_) | with_reducible exact H | (rw [hy243]; exact H) | exact H
                                        have Ny243 := Aside0.mk hy243
                                        clear hy243
                                        simp only [Option.some.injEq, Prod.mk.injEq] at H
                                        obtain ⟨rfl, rfl, rfl⟩ := H
                                        go_wp2_with (first | ((with_reducible refine gate_dst (N := 75) rfl ?_); refine Kd.R_lit (Kd.int .u8) _ 5 ?hg (N := 75) ?hd (xs := ([x11_27] : List Int)) (inner := [.int .u8 x11_27]) (ok := fun _ => True) (okp := fun _ => True) ?hr ?hp (fun _ hk => hk) trivial (Below.refl _ _) (Nat.le_refl _) (by simp) ?_; (case hd => rfl); (case hg => rfl); (case hr => first | (go_simp; done) | (go_simp; rfl)); (case hp => exact (Reps.one (show Kd.M (Kd.int .u8) _ _ _ x11_27 [.int .u8 x11_27] from rfl) (Reps.none _ _))); intro v244 w40 ho41 hb hg_ hnew_; clear hg_ hnew_; (first | rw [← Ny243.out] at ho41 | (simp only [Int.reduceToNat] at ho41; rw [← Ny243.out] at ho41)); have n0_ := Aside0.mk (Kd.R_lower ho41 (below_size (by repeat first | exact HB.out | apply below_alloc | apply pw_below_drewN | apply below_drew1))); have n1_ := Aside0.mk (below_step (by repeat first | exact HB.out | apply below_alloc | apply pw_below_drewN | apply below_drew1) hb); clear HB; have HO245 := n0_; have HB := n1_; clear n0_ n1_; clear hb ho41))
                                        go_ret3
                                        exact ⟨_, by first | rfl | (simp [errW_none, errW_some] <;> rfl) | (simp [*, errW_none, errW_some] <;> rfl), by (with_reducible repeat (first | apply Kd.R_alloc | apply Kd.R_drewN | apply Kd.R_drew)); exact HO245.out, by repeat first | exact HB.out | apply below_alloc | apply pw_below_drewN | apply below_drew1⟩
                                      · rw [if_neg c39] at H
                                        have c39b0 : (t235.toList == ([101, 113, 122] : List UInt8)) = false := beq_eq_false_iff_ne.mpr c39
                                        have c39b1 : (t235.toList != ([101, 113, 122] : List UInt8)) = true := bne_iff_ne.mpr c39
                                        have HC42 := Aside0.mk H
                                        clear H
                                        go_upto_if 76 with (fail)
                                        go_cut [76] (fun v76 wc => ∃ (kq : Nat) (x76_41 : Bool), v76 = .bool x76_41 ∧ Aside0 (mandrelref04_Sign.j5 kq x11_27 t235 x76_41 = some (r1, r2, r3)) ∧ Aside0 (kq ≤ kj33) ∧ Aside0 (Below w.heap.size w wc))
                                        case first =>
                                          have H := HC42.out
                                          clear HC42
                                          by_cases c43 : t235.toList = ([99, 108, 122] : List UInt8)
                                          · rw [if_pos c43] at H
                                            have c43b0 : (t235.toList == ([99, 108, 122] : List UInt8)) = true := beq_iff_eq.mpr c43
                                            have c43b1 : (t235.toList != ([99, 108, 122] : List UInt8)) = false := bne_eq_false_iff_eq.mpr c43
                                            clear c43
                                            (first | rw [c43b0] | (simp only [i64_w, i32_w]; rw [c43b0]) | skip)
                                            have H' := Aside0.mk H
                                            clear H
                                            go_wp2
                                            go_meet
                                            case rel => exact ⟨_, ((t235.toList == ([99, 108, 122] : List UInt8))), (by first | rfl | (simp; done) | (simp [*]; done)), H', ⟨by have := HJ2.out; have := HJ8.out; have := HJ16.out; have := HJ27.out; have := HJ33.out; first | omega | exact Nat.le_refl _⟩, ⟨by repeat first | exact HB.out | apply below_alloc | apply pw_below_drewN | apply below_drew1⟩⟩
                                          · rw [if_neg c43] at H
                                            have c43b0 : (t235.toList == ([99, 108, 122] : List UInt8)) = false := beq_eq_false_iff_ne.mpr c43
                                            have c43b1 : (t235.toList != ([99, 108, 122] : List UInt8)) = true := bne_iff_ne.mpr c43
                                            (first | rw [c43b0] | (simp only [i64_w, i32_w]; rw [c43b0]) | skip)
                                            by_cases c44 : t235.toList = ([99, 116, 122] : List UInt8)
                                            · rw [if_pos c44] at H
                                              have c44b0 : (t235.toList == ([99, 116, 122] : List UInt8)) = true := beq_iff_eq.mpr c44
                                              have c44b1 : (t235.toList != ([99, 116, 122] : List UInt8)) = false := bne_eq_false_iff_eq.mpr c44
                                              clear c44
                                              have H' := Aside0.mk H
                                              clear H
                                              go_wp2
                                              go_meet
                                              case rel => exact ⟨_, ((t235.toList == ([99, 116, 122] : List UInt8))), (by first | rfl | (simp; done) | (simp [*]; done)), H', ⟨by have := HJ2.out; have := HJ8.out; have := HJ16.out; have := HJ27.out; have := HJ33.out; first | omega | exact Nat.le_refl _⟩, ⟨by repeat first | exact HB.out | apply below_alloc | apply pw_below_drewN | apply below_drew1⟩⟩
                                            · rw [if_neg c44] at H
                                              have c44b0 : (t235.toList == ([99, 116, 122] : List UInt8)) = false := beq_eq_false_iff_ne.mpr c44
                                              have c44b1 : (t235.toList != ([99, 116, 122] : List UInt8)) = true := bne_iff_ne.mpr c44
                                              have H' := Aside0.mk H
                                              clear H
                                              go_wp2
                                              go_meet
                                              case rel => exact ⟨_, ((t235.toList == ([112, 111, 112, 99, 110, 116] : List UInt8))), (by first | rfl | (simp; done) | (simp [*]; done)), H', ⟨by have := HJ2.out; have := HJ8.out; have := HJ16.out; have := HJ27.out; have := HJ33.out; first | omega | exact Nat.le_refl _⟩, ⟨by repeat first | exact HB.out | apply below_alloc | apply pw_below_drewN | apply below_drew1⟩⟩
                                        case rest =>
                                          clear HC42
                                          try clear c1
                                          try clear c2
                                          try clear p2
                                          try clear c3
                                          try clear c4
                                          try clear c5
                                          try clear c5b0
                                          try clear c5b1
                                          try clear c6
                                          try clear c11
                                          try clear c11b0
                                          try clear c11b1
                                          try clear c12
                                          try clear c13
                                          try clear c13b0
                                          try clear c13b1
                                          try clear c14
                                          try clear c14b0
                                          try clear c14b1
                                          try clear c18
                                          try clear c18b0
                                          try clear c18b1
                                          try clear c19
                                          try clear c19b0
                                          try clear c19b1
                                          try clear c21
                                          try clear c24
                                          try clear c24b0
                                          try clear c24b1
                                          try clear c30
                                          try clear c30b0
                                          try clear c30b1
                                          try clear c31
                                          try clear c31b0
                                          try clear c31b1
                                          try clear c35
                                          try clear c35b0
                                          try clear c35b1
                                          try clear c36
                                          try clear c39
                                          try clear c39b0
                                          try clear c39b1
                                          try clear c43
                                          try clear c43b0
                                          try clear c43b1
                                          try clear c44
                                          try clear c44b0
                                          try clear c44b1
                                          try clear p2
                                          obtain ⟨kq, x76_41, rfl, HA, HJ41, HB⟩ := hcut
                                          cases kq with
                                          | zero => exact absurd HA.out (by simp [mandrelref04_Sign.j5])
                                          | succ kj41 =>
                                            have H := HA.out
                                            clear HA
                                            simp only [mandrelref04_Sign.j5] at H
                                            by_cases c45 : x76_41 = true
                                            · subst c45
                                              have H1 : (some ((([x11_27] : List Int)), x11_27, true)) = some (r1, r2, r3) := by rw [if_pos rfl] at H; exact H
                                              clear H
                                              have H := H1
                                              clear H1
                                              obtain ⟨y246, hy246⟩ : ∃ y_ : List Int, y_ = (([x11_27] : List Int)) := ⟨_, rfl⟩
                                              replace H : (some (y246, x11_27, true)) = some (r1, r2, r3) := by first | (rw [hy246]; with_reducible exact H) | (have H2_ := (Option.bind_some _ _).symm.trans H; rw [hy246]; with_reducible exact H2_) | (have H2_ := (Option.bind_some _ _).symm.trans H; with_reducible exact H2_) | with_reducible exact H | (rw [hy246]; exact H) | exact H
                                              have Ny246 := Aside0.mk hy246
                                              clear hy246
                                              simp only [Option.some.injEq, Prod.mk.injEq] at H
                                              obtain ⟨rfl, rfl, rfl⟩ := H
                                              go_wp2_with (first | ((with_reducible refine gate_dst (N := 81) rfl ?_); refine Kd.R_lit (Kd.int .u8) _ 5 ?hg (N := 81) ?hd (xs := ([x11_27] : List Int)) (inner := [.int .u8 x11_27]) (ok := fun _ => True) (okp := fun _ => True) ?hr ?hp (fun _ hk => hk) trivial (Below.refl _ _) (Nat.le_refl _) (by simp) ?_; (case hd => rfl); (case hg => rfl); (case hr => first | (go_simp; done) | (go_simp; rfl)); (case hp => exact (Reps.one (show Kd.M (Kd.int .u8) _ _ _ x11_27 [.int .u8 x11_27] from rfl) (Reps.none _ _))); intro v247 w46 ho47 hb hg_ hnew_; clear hg_ hnew_; (first | rw [← Ny246.out] at ho47 | (simp only [Int.reduceToNat] at ho47; rw [← Ny246.out] at ho47)); have n0_ := Aside0.mk (Kd.R_lower ho47 (below_size (by repeat first | exact HB.out | apply below_alloc | apply pw_below_drewN | apply below_drew1))); have n1_ := Aside0.mk (below_step (by repeat first | exact HB.out | apply below_alloc | apply pw_below_drewN | apply below_drew1) hb); clear HB; have HO248 := n0_; have HB := n1_; clear n0_ n1_; clear hb ho47))
                                              go_ret3
                                              exact ⟨_, by first | rfl | (simp [errW_none, errW_some] <;> rfl) | (simp [*, errW_none, errW_some] <;> rfl), by (with_reducible repeat (first | apply Kd.R_alloc | apply Kd.R_drewN | apply Kd.R_drew)); exact HO248.out, by repeat first | exact HB.out | apply below_alloc | apply pw_below_drewN | apply below_drew1⟩
                                            · replace c45 := Bool.eq_false_iff.mpr c45
                                              subst c45
                                              have H1 : (if t235.toList = ([101, 113] : List UInt8) then (some ((([x11_27, x11_27] : List Int)), 127, true)) else (if t235.toList = ([110, 101] : List UInt8) then (some ((([x11_27, x11_27] : List Int)), 127, true)) else (if t235.toList = ([108, 116, 95, 115] : List UInt8) then (some ((([x11_27, x11_27] : List Int)), 127, true)) else (if t235.toList = ([108, 116, 95, 117] : List UInt8) then (some ((([x11_27, x11_27] : List Int)), 127, true)) else (if t235.toList = ([103, 116, 95, 115] : List UInt8) then (some ((([x11_27, x11_27] : List Int)), 127, true)) else (if t235.toList = ([103, 116, 95, 117] : List UInt8) then (some ((([x11_27, x11_27] : List Int)), 127, true)) else (if t235.toList = ([108, 101, 95, 115] : List UInt8) then (some ((([x11_27, x11_27] : List Int)), 127, true)) else (if t235.toList = ([108, 101, 95, 117] : List UInt8) then (some ((([x11_27, x11_27] : List Int)), 127, true)) else (if t235.toList = ([103, 101, 95, 115] : List UInt8) then (some ((([x11_27, x11_27] : List Int)), 127, true)) else (if t235.toList = ([103, 101, 95, 117] : List UInt8) then (some ((([x11_27, x11_27] : List Int)), 127, true)) else (some ((([x11_27, x11_27] : List Int)), x11_27, true)))))))))))) = some (r1, r2, r3) := by rw [if_neg (show ¬ (false = true) by decide)] at H; exact H
                                              clear H
                                              have H := H1
                                              clear H1
                                              by_cases c48 : t235.toList = ([101, 113] : List UInt8)
                                              · rw [if_pos c48] at H
                                                have c48b0 : (t235.toList == ([101, 113] : List UInt8)) = true := beq_iff_eq.mpr c48
                                                have c48b1 : (t235.toList != ([101, 113] : List UInt8)) = false := bne_eq_false_iff_eq.mpr c48
                                                clear c48
                                                obtain ⟨y249, hy249⟩ : ∃ y_ : List Int, y_ = (([x11_27, x11_27] : List Int)) := ⟨_, rfl⟩
                                                replace H : (some (y249, 127, true)) = some (r1, r2, r3) := by first | (rw [hy249]; with_reducible exact H) | (have H2_ := (Option.bind_some _ _).symm.trans H; rw [hy249]; with_reducible exact H2_) | (have H2_ := (Option.bind_some _ _).symm.trans H; with_reducible exact H2_) | with_reducible exact H | (rw [hy249]; exact H) | exact H
                                                have Ny249 := Aside0.mk hy249
                                                clear hy249
                                                simp only [Option.some.injEq, Prod.mk.injEq] at H
                                                obtain ⟨rfl, rfl, rfl⟩ := H
                                                go_wp2_with (first | ((with_reducible refine gate_dst (N := 96) rfl ?_); refine Kd.R_lit (Kd.int .u8) _ 5 ?hg (N := 96) ?hd (xs := ([x11_27, x11_27] : List Int)) (inner := [.int .u8 x11_27, .int .u8 x11_27]) (ok := fun _ => True) (okp := fun _ => True) ?hr ?hp (fun _ hk => hk) trivial (Below.refl _ _) (Nat.le_refl _) (by simp) ?_; (case hd => rfl); (case hg => rfl); (case hr => first | (go_simp; done) | (go_simp; rfl)); (case hp => exact (Reps.one (show Kd.M (Kd.int .u8) _ _ _ x11_27 [.int .u8 x11_27] from rfl) (Reps.one (show Kd.M (Kd.int .u8) _ _ _ x11_27 [.int .u8 x11_27] from rfl) (Reps.none _ _)))); intro v250 w49 ho50 hb hg_ hnew_; clear hg_ hnew_; (first | rw [← Ny249.out] at ho50 | (simp only [Int.reduceToNat] at ho50; rw [← Ny249.out] at ho50)); have n0_ := Aside0.mk (Kd.R_lower ho50 (below_size (by repeat first | exact HB.out | apply below_alloc | apply pw_below_drewN | apply below_drew1))); have n1_ := Aside0.mk (below_step (by repeat first | exact HB.out | apply below_alloc | apply pw_below_drewN | apply below_drew1) hb); clear HB; have HO251 := n0_; have HB := n1_; clear n0_ n1_; clear hb ho50))
                                                go_ret3
                                                exact ⟨_, by first | rfl | (simp [errW_none, errW_some] <;> rfl) | (simp [*, errW_none, errW_some] <;> rfl), by (with_reducible repeat (first | apply Kd.R_alloc | apply Kd.R_drewN | apply Kd.R_drew)); exact HO251.out, by repeat first | exact HB.out | apply below_alloc | apply pw_below_drewN | apply below_drew1⟩
                                              · rw [if_neg c48] at H
                                                have c48b0 : (t235.toList == ([101, 113] : List UInt8)) = false := beq_eq_false_iff_ne.mpr c48
                                                have c48b1 : (t235.toList != ([101, 113] : List UInt8)) = true := bne_iff_ne.mpr c48
                                                by_cases c51 : t235.toList = ([110, 101] : List UInt8)
                                                · rw [if_pos c51] at H
                                                  have c51b0 : (t235.toList == ([110, 101] : List UInt8)) = true := beq_iff_eq.mpr c51
                                                  have c51b1 : (t235.toList != ([110, 101] : List UInt8)) = false := bne_eq_false_iff_eq.mpr c51
                                                  clear c51
                                                  obtain ⟨y252, hy252⟩ : ∃ y_ : List Int, y_ = (([x11_27, x11_27] : List Int)) := ⟨_, rfl⟩
                                                  replace H : (some (y252, 127, true)) = some (r1, r2, r3) := by first | (rw [hy252]; with_reducible exact H) | (have H2_ := (Option.bind_some _ _).symm.trans H; rw [hy252]; with_reducible exact H2_) | (have H2_ := (Option.bind_some _ _).symm.trans H; with_reducible exact H2_) | with_reducible exact H | (rw [hy252]; exact H) | exact H
                                                  have Ny252 := Aside0.mk hy252
                                                  clear hy252
                                                  simp only [Option.some.injEq, Prod.mk.injEq] at H
                                                  obtain ⟨rfl, rfl, rfl⟩ := H
                                                  go_wp2_with (first | ((with_reducible refine gate_dst (N := 96) rfl ?_); refine Kd.R_lit (Kd.int .u8) _ 5 ?hg (N := 96) ?hd (xs := ([x11_27, x11_27] : List Int)) (inner := [.int .u8 x11_27, .int .u8 x11_27]) (ok := fun _ => True) (okp := fun _ => True) ?hr ?hp (fun _ hk => hk) trivial (Below.refl _ _) (Nat.le_refl _) (by simp) ?_; (case hd => rfl); (case hg => rfl); (case hr => first | (go_simp; done) | (go_simp; rfl)); (case hp => exact (Reps.one (show Kd.M (Kd.int .u8) _ _ _ x11_27 [.int .u8 x11_27] from rfl) (Reps.one (show Kd.M (Kd.int .u8) _ _ _ x11_27 [.int .u8 x11_27] from rfl) (Reps.none _ _)))); intro v253 w52 ho53 hb hg_ hnew_; clear hg_ hnew_; (first | rw [← Ny252.out] at ho53 | (simp only [Int.reduceToNat] at ho53; rw [← Ny252.out] at ho53)); have n0_ := Aside0.mk (Kd.R_lower ho53 (below_size (by repeat first | exact HB.out | apply below_alloc | apply pw_below_drewN | apply below_drew1))); have n1_ := Aside0.mk (below_step (by repeat first | exact HB.out | apply below_alloc | apply pw_below_drewN | apply below_drew1) hb); clear HB; have HO254 := n0_; have HB := n1_; clear n0_ n1_; clear hb ho53))
                                                  go_ret3
                                                  exact ⟨_, by first | rfl | (simp [errW_none, errW_some] <;> rfl) | (simp [*, errW_none, errW_some] <;> rfl), by (with_reducible repeat (first | apply Kd.R_alloc | apply Kd.R_drewN | apply Kd.R_drew)); exact HO254.out, by repeat first | exact HB.out | apply below_alloc | apply pw_below_drewN | apply below_drew1⟩
                                                · rw [if_neg c51] at H
                                                  have c51b0 : (t235.toList == ([110, 101] : List UInt8)) = false := beq_eq_false_iff_ne.mpr c51
                                                  have c51b1 : (t235.toList != ([110, 101] : List UInt8)) = true := bne_iff_ne.mpr c51
                                                  by_cases c54 : t235.toList = ([108, 116, 95, 115] : List UInt8)
                                                  · rw [if_pos c54] at H
                                                    have c54b0 : (t235.toList == ([108, 116, 95, 115] : List UInt8)) = true := beq_iff_eq.mpr c54
                                                    have c54b1 : (t235.toList != ([108, 116, 95, 115] : List UInt8)) = false := bne_eq_false_iff_eq.mpr c54
                                                    clear c54
                                                    obtain ⟨y255, hy255⟩ : ∃ y_ : List Int, y_ = (([x11_27, x11_27] : List Int)) := ⟨_, rfl⟩
                                                    replace H : (some (y255, 127, true)) = some (r1, r2, r3) := by first | (rw [hy255]; with_reducible exact H) | (have H2_ := (Option.bind_some _ _).symm.trans H; rw [hy255]; with_reducible exact H2_) | (have H2_ := (Option.bind_some _ _).symm.trans H; with_reducible exact H2_) | with_reducible exact H | (rw [hy255]; exact H) | exact H
                                                    have Ny255 := Aside0.mk hy255
                                                    clear hy255
                                                    simp only [Option.some.injEq, Prod.mk.injEq] at H
                                                    obtain ⟨rfl, rfl, rfl⟩ := H
                                                    go_wp2_with (first | ((with_reducible refine gate_dst (N := 96) rfl ?_); refine Kd.R_lit (Kd.int .u8) _ 5 ?hg (N := 96) ?hd (xs := ([x11_27, x11_27] : List Int)) (inner := [.int .u8 x11_27, .int .u8 x11_27]) (ok := fun _ => True) (okp := fun _ => True) ?hr ?hp (fun _ hk => hk) trivial (Below.refl _ _) (Nat.le_refl _) (by simp) ?_; (case hd => rfl); (case hg => rfl); (case hr => first | (go_simp; done) | (go_simp; rfl)); (case hp => exact (Reps.one (show Kd.M (Kd.int .u8) _ _ _ x11_27 [.int .u8 x11_27] from rfl) (Reps.one (show Kd.M (Kd.int .u8) _ _ _ x11_27 [.int .u8 x11_27] from rfl) (Reps.none _ _)))); intro v256 w55 ho56 hb hg_ hnew_; clear hg_ hnew_; (first | rw [← Ny255.out] at ho56 | (simp only [Int.reduceToNat] at ho56; rw [← Ny255.out] at ho56)); have n0_ := Aside0.mk (Kd.R_lower ho56 (below_size (by repeat first | exact HB.out | apply below_alloc | apply pw_below_drewN | apply below_drew1))); have n1_ := Aside0.mk (below_step (by repeat first | exact HB.out | apply below_alloc | apply pw_below_drewN | apply below_drew1) hb); clear HB; have HO257 := n0_; have HB := n1_; clear n0_ n1_; clear hb ho56))
                                                    go_ret3
                                                    exact ⟨_, by first | rfl | (simp [errW_none, errW_some] <;> rfl) | (simp [*, errW_none, errW_some] <;> rfl), by (with_reducible repeat (first | apply Kd.R_alloc | apply Kd.R_drewN | apply Kd.R_drew)); exact HO257.out, by repeat first | exact HB.out | apply below_alloc | apply pw_below_drewN | apply below_drew1⟩
                                                  · rw [if_neg c54] at H
                                                    have c54b0 : (t235.toList == ([108, 116, 95, 115] : List UInt8)) = false := beq_eq_false_iff_ne.mpr c54
                                                    have c54b1 : (t235.toList != ([108, 116, 95, 115] : List UInt8)) = true := bne_iff_ne.mpr c54
                                                    by_cases c57 : t235.toList = ([108, 116, 95, 117] : List UInt8)
                                                    · rw [if_pos c57] at H
                                                      have c57b0 : (t235.toList == ([108, 116, 95, 117] : List UInt8)) = true := beq_iff_eq.mpr c57
                                                      have c57b1 : (t235.toList != ([108, 116, 95, 117] : List UInt8)) = false := bne_eq_false_iff_eq.mpr c57
                                                      clear c57
                                                      obtain ⟨y258, hy258⟩ : ∃ y_ : List Int, y_ = (([x11_27, x11_27] : List Int)) := ⟨_, rfl⟩
                                                      replace H : (some (y258, 127, true)) = some (r1, r2, r3) := by first | (rw [hy258]; with_reducible exact H) | (have H2_ := (Option.bind_some _ _).symm.trans H; rw [hy258]; with_reducible exact H2_) | (have H2_ := (Option.bind_some _ _).symm.trans H; with_reducible exact H2_) | with_reducible exact H | (rw [hy258]; exact H) | exact H
                                                      have Ny258 := Aside0.mk hy258
                                                      clear hy258
                                                      simp only [Option.some.injEq, Prod.mk.injEq] at H
                                                      obtain ⟨rfl, rfl, rfl⟩ := H
                                                      go_wp2_with (first | ((with_reducible refine gate_dst (N := 96) rfl ?_); refine Kd.R_lit (Kd.int .u8) _ 5 ?hg (N := 96) ?hd (xs := ([x11_27, x11_27] : List Int)) (inner := [.int .u8 x11_27, .int .u8 x11_27]) (ok := fun _ => True) (okp := fun _ => True) ?hr ?hp (fun _ hk => hk) trivial (Below.refl _ _) (Nat.le_refl _) (by simp) ?_; (case hd => rfl); (case hg => rfl); (case hr => first | (go_simp; done) | (go_simp; rfl)); (case hp => exact (Reps.one (show Kd.M (Kd.int .u8) _ _ _ x11_27 [.int .u8 x11_27] from rfl) (Reps.one (show Kd.M (Kd.int .u8) _ _ _ x11_27 [.int .u8 x11_27] from rfl) (Reps.none _ _)))); intro v259 w58 ho59 hb hg_ hnew_; clear hg_ hnew_; (first | rw [← Ny258.out] at ho59 | (simp only [Int.reduceToNat] at ho59; rw [← Ny258.out] at ho59)); have n0_ := Aside0.mk (Kd.R_lower ho59 (below_size (by repeat first | exact HB.out | apply below_alloc | apply pw_below_drewN | apply below_drew1))); have n1_ := Aside0.mk (below_step (by repeat first | exact HB.out | apply below_alloc | apply pw_below_drewN | apply below_drew1) hb); clear HB; have HO260 := n0_; have HB := n1_; clear n0_ n1_; clear hb ho59))
                                                      go_ret3
                                                      exact ⟨_, by first | rfl | (simp [errW_none, errW_some] <;> rfl) | (simp [*, errW_none, errW_some] <;> rfl), by (with_reducible repeat (first | apply Kd.R_alloc | apply Kd.R_drewN | apply Kd.R_drew)); exact HO260.out, by repeat first | exact HB.out | apply below_alloc | apply pw_below_drewN | apply below_drew1⟩
                                                    · rw [if_neg c57] at H
                                                      have c57b0 : (t235.toList == ([108, 116, 95, 117] : List UInt8)) = false := beq_eq_false_iff_ne.mpr c57
                                                      have c57b1 : (t235.toList != ([108, 116, 95, 117] : List UInt8)) = true := bne_iff_ne.mpr c57
                                                      by_cases c60 : t235.toList = ([103, 116, 95, 115] : List UInt8)
                                                      · rw [if_pos c60] at H
                                                        have c60b0 : (t235.toList == ([103, 116, 95, 115] : List UInt8)) = true := beq_iff_eq.mpr c60
                                                        have c60b1 : (t235.toList != ([103, 116, 95, 115] : List UInt8)) = false := bne_eq_false_iff_eq.mpr c60
                                                        clear c60
                                                        obtain ⟨y261, hy261⟩ : ∃ y_ : List Int, y_ = (([x11_27, x11_27] : List Int)) := ⟨_, rfl⟩
                                                        replace H : (some (y261, 127, true)) = some (r1, r2, r3) := by first | (rw [hy261]; with_reducible exact H) | (have H2_ := (Option.bind_some _ _).symm.trans H; rw [hy261]; with_reducible exact H2_) | (have H2_ := (Option.bind_some _ _).symm.trans H; with_reducible exact H2_) | with_reducible exact H | (rw [hy261]; exact H) | exact H
                                                        have Ny261 := Aside0.mk hy261
                                                        clear hy261
                                                        simp only [Option.some.injEq, Prod.mk.injEq] at H
                                                        obtain ⟨rfl, rfl, rfl⟩ := H
                                                        go_wp2_with (first | ((with_reducible refine gate_dst (N := 96) rfl ?_); refine Kd.R_lit (Kd.int .u8) _ 5 ?hg (N := 96) ?hd (xs := ([x11_27, x11_27] : List Int)) (inner := [.int .u8 x11_27, .int .u8 x11_27]) (ok := fun _ => True) (okp := fun _ => True) ?hr ?hp (fun _ hk => hk) trivial (Below.refl _ _) (Nat.le_refl _) (by simp) ?_; (case hd => rfl); (case hg => rfl); (case hr => first | (go_simp; done) | (go_simp; rfl)); (case hp => exact (Reps.one (show Kd.M (Kd.int .u8) _ _ _ x11_27 [.int .u8 x11_27] from rfl) (Reps.one (show Kd.M (Kd.int .u8) _ _ _ x11_27 [.int .u8 x11_27] from rfl) (Reps.none _ _)))); intro v262 w61 ho62 hb hg_ hnew_; clear hg_ hnew_; (first | rw [← Ny261.out] at ho62 | (simp only [Int.reduceToNat] at ho62; rw [← Ny261.out] at ho62)); have n0_ := Aside0.mk (Kd.R_lower ho62 (below_size (by repeat first | exact HB.out | apply below_alloc | apply pw_below_drewN | apply below_drew1))); have n1_ := Aside0.mk (below_step (by repeat first | exact HB.out | apply below_alloc | apply pw_below_drewN | apply below_drew1) hb); clear HB; have HO263 := n0_; have HB := n1_; clear n0_ n1_; clear hb ho62))
                                                        go_ret3
                                                        exact ⟨_, by first | rfl | (simp [errW_none, errW_some] <;> rfl) | (simp [*, errW_none, errW_some] <;> rfl), by (with_reducible repeat (first | apply Kd.R_alloc | apply Kd.R_drewN | apply Kd.R_drew)); exact HO263.out, by repeat first | exact HB.out | apply below_alloc | apply pw_below_drewN | apply below_drew1⟩
                                                      · rw [if_neg c60] at H
                                                        have c60b0 : (t235.toList == ([103, 116, 95, 115] : List UInt8)) = false := beq_eq_false_iff_ne.mpr c60
                                                        have c60b1 : (t235.toList != ([103, 116, 95, 115] : List UInt8)) = true := bne_iff_ne.mpr c60
                                                        by_cases c63 : t235.toList = ([103, 116, 95, 117] : List UInt8)
                                                        · rw [if_pos c63] at H
                                                          have c63b0 : (t235.toList == ([103, 116, 95, 117] : List UInt8)) = true := beq_iff_eq.mpr c63
                                                          have c63b1 : (t235.toList != ([103, 116, 95, 117] : List UInt8)) = false := bne_eq_false_iff_eq.mpr c63
                                                          clear c63
                                                          obtain ⟨y264, hy264⟩ : ∃ y_ : List Int, y_ = (([x11_27, x11_27] : List Int)) := ⟨_, rfl⟩
                                                          replace H : (some (y264, 127, true)) = some (r1, r2, r3) := by first | (rw [hy264]; with_reducible exact H) | (have H2_ := (Option.bind_some _ _).symm.trans H; rw [hy264]; with_reducible exact H2_) | (have H2_ := (Option.bind_some _ _).symm.trans H; with_reducible exact H2_) | with_reducible exact H | (rw [hy264]; exact H) | exact H
                                                          have Ny264 := Aside0.mk hy264
                                                          clear hy264
                                                          simp only [Option.some.injEq, Prod.mk.injEq] at H
                                                          obtain ⟨rfl, rfl, rfl⟩ := H
                                                          go_wp2_with (first | ((with_reducible refine gate_dst (N := 96) rfl ?_); refine Kd.R_lit (Kd.int .u8) _ 5 ?hg (N := 96) ?hd (xs := ([x11_27, x11_27] : List Int)) (inner := [.int .u8 x11_27, .int .u8 x11_27]) (ok := fun _ => True) (okp := fun _ => True) ?hr ?hp (fun _ hk => hk) trivial (Below.refl _ _) (Nat.le_refl _) (by simp) ?_; (case hd => rfl); (case hg => rfl); (case hr => first | (go_simp; done) | (go_simp; rfl)); (case hp => exact (Reps.one (show Kd.M (Kd.int .u8) _ _ _ x11_27 [.int .u8 x11_27] from rfl) (Reps.one (show Kd.M (Kd.int .u8) _ _ _ x11_27 [.int .u8 x11_27] from rfl) (Reps.none _ _)))); intro v265 w64 ho65 hb hg_ hnew_; clear hg_ hnew_; (first | rw [← Ny264.out] at ho65 | (simp only [Int.reduceToNat] at ho65; rw [← Ny264.out] at ho65)); have n0_ := Aside0.mk (Kd.R_lower ho65 (below_size (by repeat first | exact HB.out | apply below_alloc | apply pw_below_drewN | apply below_drew1))); have n1_ := Aside0.mk (below_step (by repeat first | exact HB.out | apply below_alloc | apply pw_below_drewN | apply below_drew1) hb); clear HB; have HO266 := n0_; have HB := n1_; clear n0_ n1_; clear hb ho65))
                                                          go_ret3
                                                          exact ⟨_, by first | rfl | (simp [errW_none, errW_some] <;> rfl) | (simp [*, errW_none, errW_some] <;> rfl), by (with_reducible repeat (first | apply Kd.R_alloc | apply Kd.R_drewN | apply Kd.R_drew)); exact HO266.out, by repeat first | exact HB.out | apply below_alloc | apply pw_below_drewN | apply below_drew1⟩
                                                        · rw [if_neg c63] at H
                                                          have c63b0 : (t235.toList == ([103, 116, 95, 117] : List UInt8)) = false := beq_eq_false_iff_ne.mpr c63
                                                          have c63b1 : (t235.toList != ([103, 116, 95, 117] : List UInt8)) = true := bne_iff_ne.mpr c63
                                                          by_cases c66 : t235.toList = ([108, 101, 95, 115] : List UInt8)
                                                          · rw [if_pos c66] at H
                                                            have c66b0 : (t235.toList == ([108, 101, 95, 115] : List UInt8)) = true := beq_iff_eq.mpr c66
                                                            have c66b1 : (t235.toList != ([108, 101, 95, 115] : List UInt8)) = false := bne_eq_false_iff_eq.mpr c66
                                                            clear c66
                                                            obtain ⟨y267, hy267⟩ : ∃ y_ : List Int, y_ = (([x11_27, x11_27] : List Int)) := ⟨_, rfl⟩
                                                            replace H : (some (y267, 127, true)) = some (r1, r2, r3) := by first | (rw [hy267]; with_reducible exact H) | (have H2_ := (Option.bind_some _ _).symm.trans H; rw [hy267]; with_reducible exact H2_) | (have H2_ := (Option.bind_some _ _).symm.trans H; with_reducible exact H2_) | with_reducible exact H | (rw [hy267]; exact H) | exact H
                                                            have Ny267 := Aside0.mk hy267
                                                            clear hy267
                                                            simp only [Option.some.injEq, Prod.mk.injEq] at H
                                                            obtain ⟨rfl, rfl, rfl⟩ := H
                                                            go_wp2_with (first | ((with_reducible refine gate_dst (N := 96) rfl ?_); refine Kd.R_lit (Kd.int .u8) _ 5 ?hg (N := 96) ?hd (xs := ([x11_27, x11_27] : List Int)) (inner := [.int .u8 x11_27, .int .u8 x11_27]) (ok := fun _ => True) (okp := fun _ => True) ?hr ?hp (fun _ hk => hk) trivial (Below.refl _ _) (Nat.le_refl _) (by simp) ?_; (case hd => rfl); (case hg => rfl); (case hr => first | (go_simp; done) | (go_simp; rfl)); (case hp => exact (Reps.one (show Kd.M (Kd.int .u8) _ _ _ x11_27 [.int .u8 x11_27] from rfl) (Reps.one (show Kd.M (Kd.int .u8) _ _ _ x11_27 [.int .u8 x11_27] from rfl) (Reps.none _ _)))); intro v268 w67 ho68 hb hg_ hnew_; clear hg_ hnew_; (first | rw [← Ny267.out] at ho68 | (simp only [Int.reduceToNat] at ho68; rw [← Ny267.out] at ho68)); have n0_ := Aside0.mk (Kd.R_lower ho68 (below_size (by repeat first | exact HB.out | apply below_alloc | apply pw_below_drewN | apply below_drew1))); have n1_ := Aside0.mk (below_step (by repeat first | exact HB.out | apply below_alloc | apply pw_below_drewN | apply below_drew1) hb); clear HB; have HO269 := n0_; have HB := n1_; clear n0_ n1_; clear hb ho68))
                                                            go_ret3
                                                            exact ⟨_, by first | rfl | (simp [errW_none, errW_some] <;> rfl) | (simp [*, errW_none, errW_some] <;> rfl), by (with_reducible repeat (first | apply Kd.R_alloc | apply Kd.R_drewN | apply Kd.R_drew)); exact HO269.out, by repeat first | exact HB.out | apply below_alloc | apply pw_below_drewN | apply below_drew1⟩
                                                          · rw [if_neg c66] at H
                                                            have c66b0 : (t235.toList == ([108, 101, 95, 115] : List UInt8)) = false := beq_eq_false_iff_ne.mpr c66
                                                            have c66b1 : (t235.toList != ([108, 101, 95, 115] : List UInt8)) = true := bne_iff_ne.mpr c66
                                                            by_cases c69 : t235.toList = ([108, 101, 95, 117] : List UInt8)
                                                            · rw [if_pos c69] at H
                                                              have c69b0 : (t235.toList == ([108, 101, 95, 117] : List UInt8)) = true := beq_iff_eq.mpr c69
                                                              have c69b1 : (t235.toList != ([108, 101, 95, 117] : List UInt8)) = false := bne_eq_false_iff_eq.mpr c69
                                                              clear c69
                                                              obtain ⟨y270, hy270⟩ : ∃ y_ : List Int, y_ = (([x11_27, x11_27] : List Int)) := ⟨_, rfl⟩
                                                              replace H : (some (y270, 127, true)) = some (r1, r2, r3) := by first | (rw [hy270]; with_reducible exact H) | (have H2_ := (Option.bind_some _ _).symm.trans H; rw [hy270]; with_reducible exact H2_) | (have H2_ := (Option.bind_some _ _).symm.trans H; with_reducible exact H2_) | with_reducible exact H | (rw [hy270]; exact H) | exact H
                                                              have Ny270 := Aside0.mk hy270
                                                              clear hy270
                                                              simp only [Option.some.injEq, Prod.mk.injEq] at H
                                                              obtain ⟨rfl, rfl, rfl⟩ := H
                                                              go_wp2_with (first | ((with_reducible refine gate_dst (N := 96) rfl ?_); refine Kd.R_lit (Kd.int .u8) _ 5 ?hg (N := 96) ?hd (xs := ([x11_27, x11_27] : List Int)) (inner := [.int .u8 x11_27, .int .u8 x11_27]) (ok := fun _ => True) (okp := fun _ => True) ?hr ?hp (fun _ hk => hk) trivial (Below.refl _ _) (Nat.le_refl _) (by simp) ?_; (case hd => rfl); (case hg => rfl); (case hr => first | (go_simp; done) | (go_simp; rfl)); (case hp => exact (Reps.one (show Kd.M (Kd.int .u8) _ _ _ x11_27 [.int .u8 x11_27] from rfl) (Reps.one (show Kd.M (Kd.int .u8) _ _ _ x11_27 [.int .u8 x11_27] from rfl) (Reps.none _ _)))); intro v271 w70 ho71 hb hg_ hnew_; clear hg_ hnew_; (first | rw [← Ny270.out] at ho71 | (simp only [Int.reduceToNat] at ho71; rw [← Ny270.out] at ho71)); have n0_ := Aside0.mk (Kd.R_lower ho71 (below_size (by repeat first | exact HB.out | apply below_alloc | apply pw_below_drewN | apply below_drew1))); have n1_ := Aside0.mk (below_step (by repeat first | exact HB.out | apply below_alloc | apply pw_below_drewN | apply below_drew1) hb); clear HB; have HO272 := n0_; have HB := n1_; clear n0_ n1_; clear hb ho71))
                                                              go_ret3
                                                              exact ⟨_, by first | rfl | (simp [errW_none, errW_some] <;> rfl) | (simp [*, errW_none, errW_some] <;> rfl), by (with_reducible repeat (first | apply Kd.R_alloc | apply Kd.R_drewN | apply Kd.R_drew)); exact HO272.out, by repeat first | exact HB.out | apply below_alloc | apply pw_below_drewN | apply below_drew1⟩
                                                            · rw [if_neg c69] at H
                                                              have c69b0 : (t235.toList == ([108, 101, 95, 117] : List UInt8)) = false := beq_eq_false_iff_ne.mpr c69
                                                              have c69b1 : (t235.toList != ([108, 101, 95, 117] : List UInt8)) = true := bne_iff_ne.mpr c69
                                                              by_cases c72 : t235.toList = ([103, 101, 95, 115] : List UInt8)
                                                              · rw [if_pos c72] at H
                                                                have c72b0 : (t235.toList == ([103, 101, 95, 115] : List UInt8)) = true := beq_iff_eq.mpr c72
                                                                have c72b1 : (t235.toList != ([103, 101, 95, 115] : List UInt8)) = false := bne_eq_false_iff_eq.mpr c72
                                                                clear c72
                                                                obtain ⟨y273, hy273⟩ : ∃ y_ : List Int, y_ = (([x11_27, x11_27] : List Int)) := ⟨_, rfl⟩
                                                                replace H : (some (y273, 127, true)) = some (r1, r2, r3) := by first | (rw [hy273]; with_reducible exact H) | (have H2_ := (Option.bind_some _ _).symm.trans H; rw [hy273]; with_reducible exact H2_) | (have H2_ := (Option.bind_some _ _).symm.trans H; with_reducible exact H2_) | with_reducible exact H | (rw [hy273]; exact H) | exact H
                                                                have Ny273 := Aside0.mk hy273
                                                                clear hy273
                                                                simp only [Option.some.injEq, Prod.mk.injEq] at H
                                                                obtain ⟨rfl, rfl, rfl⟩ := H
                                                                go_wp2_with (first | ((with_reducible refine gate_dst (N := 96) rfl ?_); refine Kd.R_lit (Kd.int .u8) _ 5 ?hg (N := 96) ?hd (xs := ([x11_27, x11_27] : List Int)) (inner := [.int .u8 x11_27, .int .u8 x11_27]) (ok := fun _ => True) (okp := fun _ => True) ?hr ?hp (fun _ hk => hk) trivial (Below.refl _ _) (Nat.le_refl _) (by simp) ?_; (case hd => rfl); (case hg => rfl); (case hr => first | (go_simp; done) | (go_simp; rfl)); (case hp => exact (Reps.one (show Kd.M (Kd.int .u8) _ _ _ x11_27 [.int .u8 x11_27] from rfl) (Reps.one (show Kd.M (Kd.int .u8) _ _ _ x11_27 [.int .u8 x11_27] from rfl) (Reps.none _ _)))); intro v274 w73 ho74 hb hg_ hnew_; clear hg_ hnew_; (first | rw [← Ny273.out] at ho74 | (simp only [Int.reduceToNat] at ho74; rw [← Ny273.out] at ho74)); have n0_ := Aside0.mk (Kd.R_lower ho74 (below_size (by repeat first | exact HB.out | apply below_alloc | apply pw_below_drewN | apply below_drew1))); have n1_ := Aside0.mk (below_step (by repeat first | exact HB.out | apply below_alloc | apply pw_below_drewN | apply below_drew1) hb); clear HB; have HO275 := n0_; have HB := n1_; clear n0_ n1_; clear hb ho74))
                                                                go_ret3
                                                                exact ⟨_, by first | rfl | (simp [errW_none, errW_some] <;> rfl) | (simp [*, errW_none, errW_some] <;> rfl), by (with_reducible repeat (first | apply Kd.R_alloc | apply Kd.R_drewN | apply Kd.R_drew)); exact HO275.out, by repeat first | exact HB.out | apply below_alloc | apply pw_below_drewN | apply below_drew1⟩
                                                              · rw [if_neg c72] at H
                                                                have c72b0 : (t235.toList == ([103, 101, 95, 115] : List UInt8)) = false := beq_eq_false_iff_ne.mpr c72
                                                                have c72b1 : (t235.toList != ([103, 101, 95, 115] : List UInt8)) = true := bne_iff_ne.mpr c72
                                                                by_cases c75 : t235.toList = ([103, 101, 95, 117] : List UInt8)
                                                                · rw [if_pos c75] at H
                                                                  have c75b0 : (t235.toList == ([103, 101, 95, 117] : List UInt8)) = true := beq_iff_eq.mpr c75
                                                                  have c75b1 : (t235.toList != ([103, 101, 95, 117] : List UInt8)) = false := bne_eq_false_iff_eq.mpr c75
                                                                  clear c75
                                                                  obtain ⟨y276, hy276⟩ : ∃ y_ : List Int, y_ = (([x11_27, x11_27] : List Int)) := ⟨_, rfl⟩
                                                                  replace H : (some (y276, 127, true)) = some (r1, r2, r3) := by first | (rw [hy276]; with_reducible exact H) | (have H2_ := (Option.bind_some _ _).symm.trans H; rw [hy276]; with_reducible exact H2_) | (have H2_ := (Option.bind_some _ _).symm.trans H; with_reducible exact H2_) | with_reducible exact H | (rw [hy276]; exact H) | exact H
                                                                  have Ny276 := Aside0.mk hy276
                                                                  clear hy276
                                                                  simp only [Option.some.injEq, Prod.mk.injEq] at H
                                                                  obtain ⟨rfl, rfl, rfl⟩ := H
                                                                  go_wp2_with (first | ((with_reducible refine gate_dst (N := 96) rfl ?_); refine Kd.R_lit (Kd.int .u8) _ 5 ?hg (N := 96) ?hd (xs := ([x11_27, x11_27] : List Int)) (inner := [.int .u8 x11_27, .int .u8 x11_27]) (ok := fun _ => True) (okp := fun _ => True) ?hr ?hp (fun _ hk => hk) trivial (Below.refl _ _) (Nat.le_refl _) (by simp) ?_; (case hd => rfl); (case hg => rfl); (case hr => first | (go_simp; done) | (go_simp; rfl)); (case hp => exact (Reps.one (show Kd.M (Kd.int .u8) _ _ _ x11_27 [.int .u8 x11_27] from rfl) (Reps.one (show Kd.M (Kd.int .u8) _ _ _ x11_27 [.int .u8 x11_27] from rfl) (Reps.none _ _)))); intro v277 w76 ho77 hb hg_ hnew_; clear hg_ hnew_; (first | rw [← Ny276.out] at ho77 | (simp only [Int.reduceToNat] at ho77; rw [← Ny276.out] at ho77)); have n0_ := Aside0.mk (Kd.R_lower ho77 (below_size (by repeat first | exact HB.out | apply below_alloc | apply pw_below_drewN | apply below_drew1))); have n1_ := Aside0.mk (below_step (by repeat first | exact HB.out | apply below_alloc | apply pw_below_drewN | apply below_drew1) hb); clear HB; have HO278 := n0_; have HB := n1_; clear n0_ n1_; clear hb ho77))
                                                                  go_ret3
                                                                  exact ⟨_, by first | rfl | (simp [errW_none, errW_some] <;> rfl) | (simp [*, errW_none, errW_some] <;> rfl), by (with_reducible repeat (first | apply Kd.R_alloc | apply Kd.R_drewN | apply Kd.R_drew)); exact HO278.out, by repeat first | exact HB.out | apply below_alloc | apply pw_below_drewN | apply below_drew1⟩
                                                                · rw [if_neg c75] at H
                                                                  have c75b0 : (t235.toList == ([103, 101, 95, 117] : List UInt8)) = false := beq_eq_false_iff_ne.mpr c75
                                                                  have c75b1 : (t235.toList != ([103, 101, 95, 117] : List UInt8)) = true := bne_iff_ne.mpr c75
                                                                  obtain ⟨y279, hy279⟩ : ∃ y_ : List Int, y_ = (([x11_27, x11_27] : List Int)) := ⟨_, rfl⟩
                                                                  replace H : (some (y279, x11_27, true)) = some (r1, r2, r3) := by first | (rw [hy279]; with_reducible exact H) | (have H2_ := (Option.bind_some _ _).symm.trans H; rw [hy279]; with_reducible exact H2_) | (have H2_ := (Option.bind_some _ _).symm.trans H; with_reducible exact H2_) | with_reducible exact H | (rw [hy279]; exact H) | exact H
                                                                  have Ny279 := Aside0.mk hy279
                                                                  clear hy279
                                                                  simp only [Option.some.injEq, Prod.mk.injEq] at H
                                                                  obtain ⟨rfl, rfl, rfl⟩ := H
                                                                  go_wp2_with (first | ((with_reducible refine gate_dst (N := 99) rfl ?_); refine Kd.R_lit (Kd.int .u8) _ 5 ?hg (N := 99) ?hd (xs := ([x11_27, x11_27] : List Int)) (inner := [.int .u8 x11_27, .int .u8 x11_27]) (ok := fun _ => True) (okp := fun _ => True) ?hr ?hp (fun _ hk => hk) trivial (Below.refl _ _) (Nat.le_refl _) (by simp) ?_; (case hd => rfl); (case hg => rfl); (case hr => first | (go_simp; done) | (go_simp; rfl)); (case hp => exact (Reps.one (show Kd.M (Kd.int .u8) _ _ _ x11_27 [.int .u8 x11_27] from rfl) (Reps.one (show Kd.M (Kd.int .u8) _ _ _ x11_27 [.int .u8 x11_27] from rfl) (Reps.none _ _)))); intro v280 w78 ho79 hb hg_ hnew_; clear hg_ hnew_; (first | rw [← Ny279.out] at ho79 | (simp only [Int.reduceToNat] at ho79; rw [← Ny279.out] at ho79)); have n0_ := Aside0.mk (Kd.R_lower ho79 (below_size (by repeat first | exact HB.out | apply below_alloc | apply pw_below_drewN | apply below_drew1))); have n1_ := Aside0.mk (below_step (by repeat first | exact HB.out | apply below_alloc | apply pw_below_drewN | apply below_drew1) hb); clear HB; have HO281 := n0_; have HB := n1_; clear n0_ n1_; clear hb ho79))
                                                                  go_ret3
                                                                  exact ⟨_, by first | rfl | (simp [errW_none, errW_some] <;> rfl) | (simp [*, errW_none, errW_some] <;> rfl), by (with_reducible repeat (first | apply Kd.R_alloc | apply Kd.R_drewN | apply Kd.R_drew)); exact HO281.out, by repeat first | exact HB.out | apply below_alloc | apply pw_below_drewN | apply below_drew1⟩

end Go.Proofs.YthgkeehpoilgaaaDoor.Hf

import Derived.Outline
import Derived.Lib.Hide
import Derived.Test.YthgkeehpoilgaaaDoorHfx0
import Derived.Test.YthgkeehpoilgaaaDoorHfx6
import Derived.Test.YthgkeehpoilgaaaDoorHfx7
namespace Go.Proofs.YthgkeehpoilgaaaDoor.Hf
open Go.RowKit Go.Proofs.YthgkeehpoilgaaaDoorW.PrintWords Go.Proofs.YthgkeehpoilgaaaDoorW.PrintLast Go.Proofs.YthgkeehpoilgaaaDoorW.PrintMore
attribute [local go_sem] max2_int min2_int max_two min_two max_three min_three max_four min_four   -- for this text's walks alone
set_option linter.unusedVariables false
set_option linter.unusedSimpArgs false

/-! ### mandrelref04.Bytes: by hand (its cut strings). -/
def refTail (s : ByteArray) : List UInt8 := (s.extract (s.size - 2) s.size).toList
def refHead (s : ByteArray) : ByteArray := if (refTail s == [95, 115]) = true then s.extract 0 (s.size - 2) else if (refTail s == [95, 117]) = true then s.extract 0 (s.size - 2) else s
def refLast (s : ByteArray) : List UInt8 := (s.extract (s.size - 1) s.size).toList
def mandrelref04_Bytes.f (k : Nat) (a0 : Int) : Option (Int × Bool × Bool) :=
  (mandrelref04_Name.f k a0).bind fun s => (mandrelref04_Form.f k a0).bind fun p =>
    if s.toList = [] then some (0, false, false) else if p.1 = 4 then
      (if 3 ≤ s.size ∧ s.size ≤ 100 then
        (if (refLast (refHead s) == [56]) = true then some (1, refTail s == [95, 115], true)
         else if (refLast (refHead s) == [54]) = true then some (2, refTail s == [95, 115], true)
         else if (refLast (refHead s) == [50]) = true then some (4, refTail s == [95, 115], true)
         else (mandrelref04_Kind.f (refHead s)).bind fun q => if q = 127 then some (4, refTail s == [95, 115], true) else some (8, refTail s == [95, 115], true))
       else none)
    else some (0, false, false)
set_option maxHeartbeats 4000000 in
set_option maxRecDepth 100000 in
theorem mandrelref04_Bytes.calls (k : Nat) (a0 : Int) (r1 : Int) (r2 r3 : Bool) (w : World) (hG : GG [] w) (h : mandrelref04_Bytes.f k a0 = some (r1, r2, r3)) :
    Calls Tryd.prog 23 #[.int .u8 a0] w fun e w' => e = .returned (.tuple #[.int .i64 r1, .bool r2, .bool r3]) ∧ Below w.heap.size w w' := by
  clear hG
  unfold mandrelref04_Bytes.f at h
  obtain ⟨s, hs, h⟩ := Option.bind_eq_some_iff.mp h
  obtain ⟨⟨f, ok⟩, hf, h⟩ := Option.bind_eq_some_iff.mp h
  have Hs := Lib.hid hs
  have Hf := Lib.hid hf
  clear hs hf
  by_cases he : s.toList = []
  · rw [if_pos he] at h
    simp only [Option.some.injEq, Prod.mk.injEq] at h
    obtain ⟨rfl, rfl, rfl⟩ := h
    have he' : s.toList.isEmpty = true := by rw [he]; rfl
    clear he
    go_enter Tryd.func23, Tryd.ntmps23
    go_wp2_with (first | (go_at_call 13; refine (mandrelref04_Name.calls k a0 s _ (GG.nil _) Hs.out).mono ?_; rintro e w1 ⟨rfl, hb1⟩) | (go_at_call 19; refine (mandrelref04_Form.calls k a0 f ok _ (GG.nil _) Hf.out).mono ?_; rintro e w2 ⟨rfl, hb2⟩))
    go_ret3
    exact ⟨rfl, below_then hb1 hb1.size hb2⟩
  · rw [if_neg he] at h
    have he' : s.toList.isEmpty = false := by
      cases hq : s.toList with
      | nil => exact absurd hq he
      | cons x r => rfl
    clear he
    by_cases h4 : f = 4
    · rw [if_pos h4] at h
      have hb4 : (f != 4) = false := by simp [h4]
      have hc4 : (f == 4) = true := by simp [h4]
      clear h4
      split at h
      case isFalse => cases h
      rename_i hsz
      obtain ⟨hz3, hz100⟩ := hsz
      by_cases c1 : (s.extract (s.size - 2) s.size).toList = [95, 115]
      · have c1b : ((s.extract (s.size - 2) s.size).toList == [95, 115]) = true := beq_iff_eq.2 c1
        clear c1
        have hl : refLast (refHead s) = ((s.extract 0 (s.size - 2)).extract (s.size - 2 - 1) (s.size - 2)).toList := by
          have hh : refHead s = (s.extract 0 (s.size - 2)) := by simp [refHead, refTail, c1b]
          rw [hh]; unfold refLast; rw [show (s.extract 0 (s.size - 2)).size = s.size - 2 from by simp [ByteArray.size_extract]]
        have hhd : refHead s = (s.extract 0 (s.size - 2)) := by simp [refHead, refTail, c1b]
        rw [hl, hhd] at h
        clear hl hhd
        by_cases d56 : (((s.extract 0 (s.size - 2)).extract (s.size - 2 - 1) (s.size - 2)).toList == [56]) = true
        · rw [if_pos d56] at h
          simp only [Option.some.injEq, Prod.mk.injEq, refTail, c1b] at h
          obtain ⟨rfl, rfl, rfl⟩ := h
          go_enter Tryd.func23, Tryd.ntmps23
          go_wp2_with (first | (go_at_call 13; refine (mandrelref04_Name.calls k a0 s _ (GG.nil _) Hs.out).mono ?_; rintro e w1 ⟨rfl, hb1⟩) | (go_at_call 19; refine (mandrelref04_Form.calls k a0 f ok _ (GG.nil _) Hf.out).mono ?_; rintro e w2 ⟨rfl, hb2⟩))
          go_ret3
          exact ⟨rfl, below_then hb1 hb1.size hb2⟩
        · rw [if_neg d56] at h
          rw [Bool.not_eq_true] at d56
          by_cases d54 : (((s.extract 0 (s.size - 2)).extract (s.size - 2 - 1) (s.size - 2)).toList == [54]) = true
          · rw [if_pos d54] at h
            simp only [Option.some.injEq, Prod.mk.injEq, refTail, c1b] at h
            obtain ⟨rfl, rfl, rfl⟩ := h
            go_enter Tryd.func23, Tryd.ntmps23
            go_wp2_with (first | (go_at_call 13; refine (mandrelref04_Name.calls k a0 s _ (GG.nil _) Hs.out).mono ?_; rintro e w1 ⟨rfl, hb1⟩) | (go_at_call 19; refine (mandrelref04_Form.calls k a0 f ok _ (GG.nil _) Hf.out).mono ?_; rintro e w2 ⟨rfl, hb2⟩))
            go_ret3
            exact ⟨rfl, below_then hb1 hb1.size hb2⟩
          · rw [if_neg d54] at h
            rw [Bool.not_eq_true] at d54
            by_cases d50 : (((s.extract 0 (s.size - 2)).extract (s.size - 2 - 1) (s.size - 2)).toList == [50]) = true
            · rw [if_pos d50] at h
              simp only [Option.some.injEq, Prod.mk.injEq, refTail, c1b] at h
              obtain ⟨rfl, rfl, rfl⟩ := h
              go_enter Tryd.func23, Tryd.ntmps23
              go_wp2_with (first | (go_at_call 13; refine (mandrelref04_Name.calls k a0 s _ (GG.nil _) Hs.out).mono ?_; rintro e w1 ⟨rfl, hb1⟩) | (go_at_call 19; refine (mandrelref04_Form.calls k a0 f ok _ (GG.nil _) Hf.out).mono ?_; rintro e w2 ⟨rfl, hb2⟩))
              go_ret3
              exact ⟨rfl, below_then hb1 hb1.size hb2⟩
            · rw [if_neg d50] at h
              rw [Bool.not_eq_true] at d50
              obtain ⟨q, hq, h⟩ := Option.bind_eq_some_iff.mp h
              have Hq := Lib.hid hq
              clear hq
              by_cases e7 : q = 127
              · rw [if_pos e7] at h
                have e7b : (q == 127) = true := by simp [e7]
                clear e7
                simp only [Option.some.injEq, Prod.mk.injEq, refTail, c1b] at h
                obtain ⟨rfl, rfl, rfl⟩ := h
                go_enter Tryd.func23, Tryd.ntmps23
                go_wp2_with (first | (go_at_call 13; refine (mandrelref04_Name.calls k a0 s _ (GG.nil _) Hs.out).mono ?_; rintro e w1 ⟨rfl, hb1⟩) | (go_at_call 19; refine (mandrelref04_Form.calls k a0 f ok _ (GG.nil _) Hf.out).mono ?_; rintro e w2 ⟨rfl, hb2⟩) | (go_at_call 58; refine (mandrelref04_Kind.calls _ q _ (GG.nil _) Hq.out).mono ?_; rintro e w3 ⟨rfl, ⟨nd, rfl⟩⟩))
                go_ret3
                exact ⟨rfl, pw_below_drewN (below_then hb1 hb1.size hb2) _⟩
              · rw [if_neg e7] at h
                have e7b : (q == 127) = false := by simp [e7]
                clear e7
                simp only [Option.some.injEq, Prod.mk.injEq, refTail, c1b] at h
                obtain ⟨rfl, rfl, rfl⟩ := h
                go_enter Tryd.func23, Tryd.ntmps23
                go_wp2_with (first | (go_at_call 13; refine (mandrelref04_Name.calls k a0 s _ (GG.nil _) Hs.out).mono ?_; rintro e w1 ⟨rfl, hb1⟩) | (go_at_call 19; refine (mandrelref04_Form.calls k a0 f ok _ (GG.nil _) Hf.out).mono ?_; rintro e w2 ⟨rfl, hb2⟩) | (go_at_call 58; refine (mandrelref04_Kind.calls _ q _ (GG.nil _) Hq.out).mono ?_; rintro e w3 ⟨rfl, ⟨nd, rfl⟩⟩))
                go_ret3
                exact ⟨rfl, pw_below_drewN (below_then hb1 hb1.size hb2) _⟩
      · have c1b : ((s.extract (s.size - 2) s.size).toList == [95, 115]) = false := beq_eq_false_iff_ne.2 c1
        clear c1
        by_cases c2 : (s.extract (s.size - 2) s.size).toList = [95, 117]
        · have c2b : ((s.extract (s.size - 2) s.size).toList == [95, 117]) = true := beq_iff_eq.2 c2
          clear c2
          have hl : refLast (refHead s) = ((s.extract 0 (s.size - 2)).extract (s.size - 2 - 1) (s.size - 2)).toList := by
            have hh : refHead s = (s.extract 0 (s.size - 2)) := by simp [refHead, refTail, c1b, c2b]
            rw [hh]; unfold refLast; rw [show (s.extract 0 (s.size - 2)).size = s.size - 2 from by simp [ByteArray.size_extract]]
          have hhd : refHead s = (s.extract 0 (s.size - 2)) := by simp [refHead, refTail, c1b, c2b]
          rw [hl, hhd] at h
          clear hl hhd
          by_cases d56 : (((s.extract 0 (s.size - 2)).extract (s.size - 2 - 1) (s.size - 2)).toList == [56]) = true
          · rw [if_pos d56] at h
            simp only [Option.some.injEq, Prod.mk.injEq, refTail, c1b] at h
            obtain ⟨rfl, rfl, rfl⟩ := h
            go_enter Tryd.func23, Tryd.ntmps23
            go_wp2_with (first | (go_at_call 13; refine (mandrelref04_Name.calls k a0 s _ (GG.nil _) Hs.out).mono ?_; rintro e w1 ⟨rfl, hb1⟩) | (go_at_call 19; refine (mandrelref04_Form.calls k a0 f ok _ (GG.nil _) Hf.out).mono ?_; rintro e w2 ⟨rfl, hb2⟩))
            go_ret3
            exact ⟨rfl, below_then hb1 hb1.size hb2⟩
          · rw [if_neg d56] at h
            rw [Bool.not_eq_true] at d56
            by_cases d54 : (((s.extract 0 (s.size - 2)).extract (s.size - 2 - 1) (s.size - 2)).toList == [54]) = true
            · rw [if_pos d54] at h
              simp only [Option.some.injEq, Prod.mk.injEq, refTail, c1b] at h
              obtain ⟨rfl, rfl, rfl⟩ := h
              go_enter Tryd.func23, Tryd.ntmps23
              go_wp2_with (first | (go_at_call 13; refine (mandrelref04_Name.calls k a0 s _ (GG.nil _) Hs.out).mono ?_; rintro e w1 ⟨rfl, hb1⟩) | (go_at_call 19; refine (mandrelref04_Form.calls k a0 f ok _ (GG.nil _) Hf.out).mono ?_; rintro e w2 ⟨rfl, hb2⟩))
              go_ret3
              exact ⟨rfl, below_then hb1 hb1.size hb2⟩
            · rw [if_neg d54] at h
              rw [Bool.not_eq_true] at d54
              by_cases d50 : (((s.extract 0 (s.size - 2)).extract (s.size - 2 - 1) (s.size - 2)).toList == [50]) = true
              · rw [if_pos d50] at h
                simp only [Option.some.injEq, Prod.mk.injEq, refTail, c1b] at h
                obtain ⟨rfl, rfl, rfl⟩ := h
                go_enter Tryd.func23, Tryd.ntmps23
                go_wp2_with (first | (go_at_call 13; refine (mandrelref04_Name.calls k a0 s _ (GG.nil _) Hs.out).mono ?_; rintro e w1 ⟨rfl, hb1⟩) | (go_at_call 19; refine (mandrelref04_Form.calls k a0 f ok _ (GG.nil _) Hf.out).mono ?_; rintro e w2 ⟨rfl, hb2⟩))
                go_ret3
                exact ⟨rfl, below_then hb1 hb1.size hb2⟩
              · rw [if_neg d50] at h
                rw [Bool.not_eq_true] at d50
                obtain ⟨q, hq, h⟩ := Option.bind_eq_some_iff.mp h
                have Hq := Lib.hid hq
                clear hq
                by_cases e7 : q = 127
                · rw [if_pos e7] at h
                  have e7b : (q == 127) = true := by simp [e7]
                  clear e7
                  simp only [Option.some.injEq, Prod.mk.injEq, refTail, c1b] at h
                  obtain ⟨rfl, rfl, rfl⟩ := h
                  go_enter Tryd.func23, Tryd.ntmps23
                  go_wp2_with (first | (go_at_call 13; refine (mandrelref04_Name.calls k a0 s _ (GG.nil _) Hs.out).mono ?_; rintro e w1 ⟨rfl, hb1⟩) | (go_at_call 19; refine (mandrelref04_Form.calls k a0 f ok _ (GG.nil _) Hf.out).mono ?_; rintro e w2 ⟨rfl, hb2⟩) | (go_at_call 58; refine (mandrelref04_Kind.calls _ q _ (GG.nil _) Hq.out).mono ?_; rintro e w3 ⟨rfl, ⟨nd, rfl⟩⟩))
                  go_ret3
                  exact ⟨rfl, pw_below_drewN (below_then hb1 hb1.size hb2) _⟩
                · rw [if_neg e7] at h
                  have e7b : (q == 127) = false := by simp [e7]
                  clear e7
                  simp only [Option.some.injEq, Prod.mk.injEq, refTail, c1b] at h
                  obtain ⟨rfl, rfl, rfl⟩ := h
                  go_enter Tryd.func23, Tryd.ntmps23
                  go_wp2_with (first | (go_at_call 13; refine (mandrelref04_Name.calls k a0 s _ (GG.nil _) Hs.out).mono ?_; rintro e w1 ⟨rfl, hb1⟩) | (go_at_call 19; refine (mandrelref04_Form.calls k a0 f ok _ (GG.nil _) Hf.out).mono ?_; rintro e w2 ⟨rfl, hb2⟩) | (go_at_call 58; refine (mandrelref04_Kind.calls _ q _ (GG.nil _) Hq.out).mono ?_; rintro e w3 ⟨rfl, ⟨nd, rfl⟩⟩))
                  go_ret3
                  exact ⟨rfl, pw_below_drewN (below_then hb1 hb1.size hb2) _⟩
        · have c2b : ((s.extract (s.size - 2) s.size).toList == [95, 117]) = false := beq_eq_false_iff_ne.2 c2
          clear c2
          have hl : refLast (refHead s) = (s.extract (s.size - 1) s.size).toList := by
            have hh : refHead s = s := by simp [refHead, refTail, c1b, c2b]
            rw [hh]; rfl
          have hhd : refHead s = s := by simp [refHead, refTail, c1b, c2b]
          rw [hl, hhd] at h
          clear hl hhd
          by_cases d56 : ((s.extract (s.size - 1) s.size).toList == [56]) = true
          · rw [if_pos d56] at h
            simp only [Option.some.injEq, Prod.mk.injEq, refTail, c1b] at h
            obtain ⟨rfl, rfl, rfl⟩ := h
            go_enter Tryd.func23, Tryd.ntmps23
            go_wp2_with (first | (go_at_call 13; refine (mandrelref04_Name.calls k a0 s _ (GG.nil _) Hs.out).mono ?_; rintro e w1 ⟨rfl, hb1⟩) | (go_at_call 19; refine (mandrelref04_Form.calls k a0 f ok _ (GG.nil _) Hf.out).mono ?_; rintro e w2 ⟨rfl, hb2⟩))
            go_ret3
            exact ⟨rfl, below_then hb1 hb1.size hb2⟩
          · rw [if_neg d56] at h
            rw [Bool.not_eq_true] at d56
            by_cases d54 : ((s.extract (s.size - 1) s.size).toList == [54]) = true
            · rw [if_pos d54] at h
              simp only [Option.some.injEq, Prod.mk.injEq, refTail, c1b] at h
              obtain ⟨rfl, rfl, rfl⟩ := h
              go_enter Tryd.func23, Tryd.ntmps23
              go_wp2_with (first | (go_at_call 13; refine (mandrelref04_Name.calls k a0 s _ (GG.nil _) Hs.out).mono ?_; rintro e w1 ⟨rfl, hb1⟩) | (go_at_call 19; refine (mandrelref04_Form.calls k a0 f ok _ (GG.nil _) Hf.out).mono ?_; rintro e w2 ⟨rfl, hb2⟩))
              go_ret3
              exact ⟨rfl, below_then hb1 hb1.size hb2⟩
            · rw [if_neg d54] at h
              rw [Bool.not_eq_true] at d54
              by_cases d50 : ((s.extract (s.size - 1) s.size).toList == [50]) = true
              · rw [if_pos d50] at h
                simp only [Option.some.injEq, Prod.mk.injEq, refTail, c1b] at h
                obtain ⟨rfl, rfl, rfl⟩ := h
                go_enter Tryd.func23, Tryd.ntmps23
                go_wp2_with (first | (go_at_call 13; refine (mandrelref04_Name.calls k a0 s _ (GG.nil _) Hs.out).mono ?_; rintro e w1 ⟨rfl, hb1⟩) | (go_at_call 19; refine (mandrelref04_Form.calls k a0 f ok _ (GG.nil _) Hf.out).mono ?_; rintro e w2 ⟨rfl, hb2⟩))
                go_ret3
                exact ⟨rfl, below_then hb1 hb1.size hb2⟩
              · rw [if_neg d50] at h
                rw [Bool.not_eq_true] at d50
                obtain ⟨q, hq, h⟩ := Option.bind_eq_some_iff.mp h
                have Hq := Lib.hid hq
                clear hq
                by_cases e7 : q = 127
                · rw [if_pos e7] at h
                  have e7b : (q == 127) = true := by simp [e7]
                  clear e7
                  simp only [Option.some.injEq, Prod.mk.injEq, refTail, c1b] at h
                  obtain ⟨rfl, rfl, rfl⟩ := h
                  go_enter Tryd.func23, Tryd.ntmps23
                  go_wp2_with (first | (go_at_call 13; refine (mandrelref04_Name.calls k a0 s _ (GG.nil _) Hs.out).mono ?_; rintro e w1 ⟨rfl, hb1⟩) | (go_at_call 19; refine (mandrelref04_Form.calls k a0 f ok _ (GG.nil _) Hf.out).mono ?_; rintro e w2 ⟨rfl, hb2⟩) | (go_at_call 58; refine (mandrelref04_Kind.calls _ q _ (GG.nil _) Hq.out).mono ?_; rintro e w3 ⟨rfl, ⟨nd, rfl⟩⟩))
                  go_ret3
                  exact ⟨rfl, pw_below_drewN (below_then hb1 hb1.size hb2) _⟩
                · rw [if_neg e7] at h
                  have e7b : (q == 127) = false := by simp [e7]
                  clear e7
                  simp only [Option.some.injEq, Prod.mk.injEq, refTail, c1b] at h
                  obtain ⟨rfl, rfl, rfl⟩ := h
                  go_enter Tryd.func23, Tryd.ntmps23
                  go_wp2_with (first | (go_at_call 13; refine (mandrelref04_Name.calls k a0 s _ (GG.nil _) Hs.out).mono ?_; rintro e w1 ⟨rfl, hb1⟩) | (go_at_call 19; refine (mandrelref04_Form.calls k a0 f ok _ (GG.nil _) Hf.out).mono ?_; rintro e w2 ⟨rfl, hb2⟩) | (go_at_call 58; refine (mandrelref04_Kind.calls _ q _ (GG.nil _) Hq.out).mono ?_; rintro e w3 ⟨rfl, ⟨nd, rfl⟩⟩))
                  go_ret3
                  exact ⟨rfl, pw_below_drewN (below_then hb1 hb1.size hb2) _⟩
    · rw [if_neg h4] at h
      have hb4 : (f != 4) = true := by simp [h4]
      have hc4 : (f == 4) = false := by simp [h4]
      clear h4
      simp only [Option.some.injEq, Prod.mk.injEq] at h
      obtain ⟨rfl, rfl, rfl⟩ := h
      go_enter Tryd.func23, Tryd.ntmps23
      go_wp2_with (first | (go_at_call 13; refine (mandrelref04_Name.calls k a0 s _ (GG.nil _) Hs.out).mono ?_; rintro e w1 ⟨rfl, hb1⟩) | (go_at_call 19; refine (mandrelref04_Form.calls k a0 f ok _ (GG.nil _) Hf.out).mono ?_; rintro e w2 ⟨rfl, hb2⟩))
      go_ret3
      exact ⟨rfl, below_then hb1 hb1.size hb2⟩
end Go.Proofs.YthgkeehpoilgaaaDoor.Hf

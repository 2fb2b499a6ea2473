import Derived.Outline
import Derived.Lib.Hide
import Derived.LoopTactic
import Derived.Deep.QuietTactic
import Derived.BigQuiet
import Derived.Test.YthgkeehpoilgaaaDoorProg
import Derived.Test.YthgkeehpoilgaaaDoorHvx0
import Derived.Test.YthgkeehpoilgaaaDoorHvHMay
import Derived.Test.YthgkeehpoilgaaaDoorHvHAwayWhole
import Derived.Test.YthgkeehpoilgaaaDoorHvx1
import Derived.Test.YthgkeehpoilgaaaDoorHvx5
import Derived.Test.YthgkeehpoilgaaaDoorHvx7
import Derived.Test.YthgkeehpoilgaaaDoorHvx8
namespace Go.Proofs.YthgkeehpoilgaaaDoor.Hv
open Go.RowKit Go.Proofs.YthgkeehpoilgaaaDoorW.PrintWords Go.Proofs.YthgkeehpoilgaaaDoorW.PrintLast Go.Proofs.YthgkeehpoilgaaaDoorW.PrintMore
attribute [local go_sem] max2_int min2_int max_two min_two max_three min_three max_four min_four   -- for this text's walks alone
set_option linter.unusedVariables false
set_option linter.unusedSimpArgs false

/-! ### (mandrel/vcode.Code).whole -/
def mayO (k : Nat) (n : Int) (res : Bool) (x : S55) : Option Bool :=
  (vcode_shapeOf.f k x.f0).bind fun s => (vcode_memory.f x.f0).bind fun m => (vcode_numbered.f x.f0 x.f1 x.f2 x.f3 x.f4).bind fun nb =>
    some (mayB n res x.f0 x.f1 x.f2 x.f4 s.1 s.2.1 s.2.2.1 s.2.2.2.1 s.2.2.2.2 m nb)
def wholeL (k : Nat) (last n : Int) (res : Bool) : List S55 → Int → Option Bool
  | [], _ => some true
  | x :: r, i => (mayO k n res x).bind fun m => (vcode_Ends.f x.f0).bind fun e => if (!m || (decide (i < last) && e)) = true then some false else wholeL k last n res r (i + 1)
def vcode_Code_whole.f (k : Nat) (p n : Int) (res : Bool) (l0 : List S57) (ins : List S55) (nxt : List Int) (depth : Int) : Option Bool :=
  if ins.length = 0 then some false else
  (vcode_Ends.f (rd_T55 ins ((ins.length : Int) - 1)).f0).bind fun e => (vcode_follows.f (rd_T55 ins ((ins.length : Int) - 1)).f0 (nxt.length : Int)).bind fun f =>
  if (!e || !f || decide (depth < 0) || decide (64 < depth)) = true then some false else
  (wholeL k ((ins.length : Int) - 1) n res ins 0).bind fun b => some (b && !(nxt.any fun x => awayB x (l0.length : Int)))
theorem cells3 {w : World} {g : Nat} {t : TypeId} {a b c : Value} (h : w.heap[g]? = some (.cells #[a, b, c] t (0, 0))) : w.cell? ⟨g, 0, none⟩ = some a ∧ w.cell? ⟨g, 1, none⟩ = some b ∧ w.cell? ⟨g, 2, none⟩ = some c := ⟨blk_cell h 0, blk_cell h 1, blk_cell h 2⟩
theorem mayO_calls (k : Nat) (params n : Int) (res : Bool) (Ab : Value) (x : S55) (As : Option Addr) (cs : Nat) (r : Bool) (w : World)
    (hr : Kd.C (Kd.int .i64) w As x.f2.length x.f2) (hc : x.f2.length ≤ cs) (hG : GG [0] w) (h : mayO k n res x = some r) :
    Calls Tryd.prog 123 #[.agg #[.int .i64 params, .int .i64 n, .bool res, Ab], .agg #[.int .u8 x.f0, .int .i64 x.f1, .slice As x.f2.length cs, .int .i64 x.f3, .int .u32 x.f4]] w fun e w' => e = .returned (.bool r) ∧ Below w.heap.size w w' := by
  unfold mayO at h
  obtain ⟨⟨takes, least, gives, free, is⟩, hs, h⟩ := Option.bind_eq_some_iff.mp h
  obtain ⟨m, hm, h⟩ := Option.bind_eq_some_iff.mp h
  obtain ⟨nb, hn, h⟩ := Option.bind_eq_some_iff.mp h
  have h := Option.some.inj h
  rw [← h]
  exact may_calls k params n res Ab x.f0 x.f1 As cs x.f2 x.f3 x.f4 takes least gives free is m nb w hr hc hG hs hm hn
set_option maxHeartbeats 8000000 in
set_option maxRecDepth 100000 in
theorem vcode_Code_whole.calls (k : Nat) (a0_0 : Int) (a0_1 : Int) (a0_2 : Bool) (A0_3 : Option Addr) (c0_3 : Nat) (l0_3 : List S57) (A1_0 : Option Addr) (c1_0 : Nat) (l1_0 : List S55) (A1_1 : Option Addr) (c1_1 : Nat) (l1_1 : List Int) (a1_2 : Int) (r : Bool) (w : World)
    (hr0_3 : Kd.C k57 w A0_3 l0_3.length l0_3) (hc0_3 : l0_3.length ≤ c0_3) (hr1_0 : Kd.C k55 w A1_0 l1_0.length l1_0) (hc1_0 : l1_0.length ≤ c1_0) (hr1_1 : Kd.C (Kd.int .i64) w A1_1 l1_1.length l1_1) (hc1_1 : l1_1.length ≤ c1_1) (hG : GG [0] w)
    (h : vcode_Code_whole.f k a0_0 a0_1 a0_2 l0_3 l1_0 l1_1 a1_2 = some r) :
    Calls Tryd.prog 106 #[.agg #[.int .i64 a0_0, .int .i64 a0_1, .bool a0_2, .slice A0_3 l0_3.length c0_3], .agg #[.slice A1_0 l1_0.length c1_0, .slice A1_1 l1_1.length c1_1, .int .i64 a1_2]] w fun e w' => e = .returned (.bool r) ∧ Below w.heap.size w w' := by
  have hm := hr1_0.2.1
  unfold vcode_Code_whole.f at h
  have HR0 := Lib.hid hr0_3
  have HR1 := Lib.hid hr1_0
  have HR2 := Lib.hid hr1_1
  have HG := Lib.hid hG
  clear hr0_3 hr1_0 hr1_1 hG hc0_3 hc1_0
  have GN := fun w1 : World => GG.nil w1
  by_cases h0 : l1_0.length = 0
  · rw [if_pos h0] at h
    obtain rfl := Option.some.inj h
    clear h HR0 HR1 HR2 HG
    go_enter Tryd.func106, Tryd.ntmps106
    rw [h0]
    go_upto_region 2 with (first | fail)
    go_quiet (fail)
    go_wp2
    go_ret
    exact ⟨rfl, pw_below_drewN (below_alloc (below_alloc (Below.refl w.heap.size w) _) _) _⟩
  · rw [if_neg h0] at h
    obtain ⟨e, he, h⟩ := Option.bind_eq_some_iff.mp h
    obtain ⟨f, hf, h⟩ := Option.bind_eq_some_iff.mp h
    have hlast : ∃ last : Int, last = (l1_0.length : Int) - 1 ∧ 0 ≤ last ∧ last < (l1_0.length : Int) := ⟨_, rfl, by omega, by omega⟩
    obtain ⟨last, hl, hl0, hl1⟩ := hlast
    rw [← hl] at he hf h
    obtain ⟨ad, A2, c2, rfl, hx0, hx1, hx2, hx3, hx4, hxl, hxr⟩ := at_T55 HR1.out last hl0 hl1
    clear hx1 hx2 hx3 hx4 hxl hxr
    have HE := Lib.hid (fun w1 => vcode_Ends.calls (rd_T55 l1_0 last).f0 e w1 (GG.nil w1) he)
    have HF := Lib.hid (fun w1 => vcode_follows.calls (rd_T55 l1_0 last).f0 (l1_1.length : Int) f w1 (GG.nil w1) hf)
    have Hh := Lib.hid h
    clear h he hf h0
    have hn0 : decide (last < 0) = false := decide_eq_false (by omega)
    have q0 := eq_true hl0
    have q1 := eq_true hl1
    have HX := Lib.hid hx0
    clear hx0
    go_enter Tryd.func106, Tryd.ntmps106
    go_upto_region 2 with (first | fail)
    (try simp only [Act.put, List.setIfInBounds_toArray, List.set_cons_zero, List.set_cons_succ])
    rw [← hl]
    clear hl

    have h1s := heap_alloc_size2 w (.cells #[.int .i64 a0_0, .int .i64 a0_1, .bool a0_2, .slice A0_3 l0_3.length c0_3] 60 (0, 0))
    have bC := blk_alloc (blk_new w (.cells #[.int .i64 a0_0, .int .i64 a0_1, .bool a0_2, .slice A0_3 l0_3.length c0_3] 60 (0, 0))) (.cells #[.slice (some ad) l1_0.length c1_0, .slice A1_1 l1_1.length c1_1, .int .i64 a1_2] 57 (0, 0))
    have bX := blk_new (w.alloc (.cells #[.int .i64 a0_0, .int .i64 a0_1, .bool a0_2, .slice A0_3 l0_3.length c0_3] 60 (0, 0))) (.cells #[.slice (some ad) l1_0.length c1_0, .slice A1_1 l1_1.length c1_1, .int .i64 a1_2] 57 (0, 0))
    rw [h1s] at bX
    have bB := below_alloc (below_alloc (Below.refl w.heap.size w) (.cells #[.int .i64 a0_0, .int .i64 a0_1, .bool a0_2, .slice A0_3 l0_3.length c0_3] 60 (0, 0))) (.cells #[.slice (some ad) l1_0.length c1_0, .slice A1_1 l1_1.length c1_1, .int .i64 a1_2] 57 (0, 0))
    revert bC bX bB
    generalize (w.alloc (.cells #[.int .i64 a0_0, .int .i64 a0_1, .bool a0_2, .slice A0_3 l0_3.length c0_3] 60 (0, 0))).alloc (.cells #[.slice (some ad) l1_0.length c1_0, .slice A1_1 l1_1.length c1_1, .int .i64 a1_2] 57 (0, 0)) = w2
    intro bC bX bB
    have BC := Lib.hid bC
    have BX := Lib.hid bX
    have BB := Lib.hid bB
    clear bC bX bB h1s
    go_cut [46] (fun v wc => v = .bool (!e || !f || decide (a1_2 < 0) || decide (64 < a1_2)) ∧ Hid (wc.heap[w.heap.size]? = some (.cells #[.int .i64 a0_0, .int .i64 a0_1, .bool a0_2, .slice A0_3 l0_3.length c0_3] 60 (0, 0))) ∧ Hid (wc.heap[w.heap.size + 1]? = some (.cells #[.slice (some ad) l1_0.length c1_0, .slice A1_1 l1_1.length c1_1, .int .i64 a1_2] 57 (0, 0))) ∧ Hid (Below w.heap.size w wc))
    case first =>
      obtain ⟨zc0, zc1, zc2, zc3⟩ := cells4 BC.out
      obtain ⟨zx0, zx1, zx2⟩ := cells3 BX.out
      have hx := BB.out.cell (World.block_lt_of_cell? w _ HX.out)
      rw [HX.out] at hx
      cases e with
      | false =>
        go_quiet (first | (go_at_call 34; exact Calls.quiet_of ((HE.out _).mono fun _ _ h => ⟨h.1, h.2.out⟩)) | (go_at_call 122; exact Calls.quiet_of ((HF.out _).mono fun _ _ h => ⟨h.1, h.2.out⟩)))
        go_wp2
        go_meet
        case rel => exact ⟨rfl, Lib.hid (blk_drewN BC.out _), Lib.hid (blk_drewN BX.out _), Lib.hid (pw_below_drewN BB.out _)⟩
      | true =>
        cases f with
        | false =>
          go_quiet (first | (go_at_call 34; exact Calls.quiet_of ((HE.out _).mono fun _ _ h => ⟨h.1, h.2.out⟩)) | (go_at_call 122; exact Calls.quiet_of ((HF.out _).mono fun _ _ h => ⟨h.1, h.2.out⟩)))
          go_wp2
          go_meet
          case rel => exact ⟨rfl, Lib.hid (blk_drewN BC.out _), Lib.hid (blk_drewN BX.out _), Lib.hid (pw_below_drewN BB.out _)⟩
        | true =>
          by_cases h3 : decide (a1_2 < 0) = true
          · go_quiet (first | (go_at_call 34; exact Calls.quiet_of ((HE.out _).mono fun _ _ h => ⟨h.1, h.2.out⟩)) | (go_at_call 122; exact Calls.quiet_of ((HF.out _).mono fun _ _ h => ⟨h.1, h.2.out⟩)))
            go_wp2
            go_meet
            case rel => exact ⟨by rw [h3]; rfl, Lib.hid (blk_drewN BC.out _), Lib.hid (blk_drewN BX.out _), Lib.hid (pw_below_drewN BB.out _)⟩
          · rw [Bool.not_eq_true] at h3
            go_quiet (first | (go_at_call 34; exact Calls.quiet_of ((HE.out _).mono fun _ _ h => ⟨h.1, h.2.out⟩)) | (go_at_call 122; exact Calls.quiet_of ((HF.out _).mono fun _ _ h => ⟨h.1, h.2.out⟩)))
            go_wp2
            go_meet
            case rel => exact ⟨by rw [h3]; rfl, Lib.hid (blk_drewN BC.out _), Lib.hid (blk_drewN BX.out _), Lib.hid (pw_below_drewN BB.out _)⟩
    case rest =>
      clear BC BX BB HE HF
      obtain ⟨rfl, BC, BX, BB⟩ := hcut
      obtain ⟨zc0, zc1, zc2, zc3⟩ := cells4 BC.out
      obtain ⟨zx0, zx1, zx2⟩ := cells3 BX.out
      cases hP : (!e || !f || decide (a1_2 < 0) || decide (64 < a1_2)) with
      | true =>
        have h := Hh.out
        rw [hP] at h
        obtain rfl := Option.some.inj h
        clear h
        go_wp2
        go_ret
        exact ⟨rfl, BB.out⟩
      | false =>
        have h := Hh.out
        rw [hP, if_neg (by decide)] at h
        clear Hh
        obtain ⟨b, hb, h⟩ := Option.bind_eq_some_iff.mp h
        have h := Option.some.inj h
        have Hr := Lib.hid h
        have HL := Lib.hid hb
        clear h hb hP
        go_wp2
        go_loopw [50] (fun v wc => ∃ i : Int, 0 ≤ i ∧ i ≤ (l1_0.length : Int) ∧ v = .int .i64 i ∧ Hid (wholeL k last a0_1 a0_2 (l1_0.drop i.toNat) i = some b) ∧ Hid (wc.heap[w.heap.size]? = some (.cells #[.int .i64 a0_0, .int .i64 a0_1, .bool a0_2, .slice A0_3 l0_3.length c0_3] 60 (0, 0))) ∧ Hid (wc.heap[w.heap.size + 1]? = some (.cells #[.slice (some ad) l1_0.length c1_0, .slice A1_1 l1_1.length c1_1, .int .i64 a1_2] 57 (0, 0))) ∧ Hid (Below w.heap.size w wc)) (fun v _ => l1_0.length - (intOf v).toNat)
        case atStart => exact ⟨0, by omega, by omega, rfl, HL, BC, BX, BB⟩
        case round =>
          clear BC BX BB zc0 zc1 zc2 zc3 zx0 zx1 zx2 HL
          obtain ⟨i, hi0, hi1, rfl, HL, BC, BX, BB⟩ := hrel
          obtain ⟨zc0, zc1, zc2, zc3⟩ := cells4 BC.out
          obtain ⟨zx0, zx1, zx2⟩ := cells3 BX.out
          by_cases hlt : i < (l1_0.length : Int)
          · obtain ⟨ad', A3, c3, e3, hx0, hx1, hx2, hx3, hx4, hxl, hxr⟩ := at_T55 HR1.out i hi0 hlt
            cases e3
            have hL := HL.out
            have hdrop : l1_0.drop i.toNat = rd_T55 l1_0 i :: l1_0.drop (i + 1).toNat := by
              have hn : i.toNat < l1_0.length := by omega
              rw [List.drop_eq_getElem_cons hn, show (i + 1).toNat = i.toNat + 1 by omega]
              simp [rd_T55, List.getD_eq_getElem?_getD, List.getElem?_eq_getElem hn]
            rw [hdrop] at hL
            clear hdrop HL
            generalize hxe : rd_T55 l1_0 i = x at hx0 hx1 hx2 hx3 hx4 hxl hxr hL
            clear hxe
            have hx0 := (BB.out.cell (World.block_lt_of_cell? w _ hx0)).trans hx0
            have hx1 := (BB.out.cell (World.block_lt_of_cell? w _ hx1)).trans hx1
            have hx2 := (BB.out.cell (World.block_lt_of_cell? w _ hx2)).trans hx2
            have hx3 := (BB.out.cell (World.block_lt_of_cell? w _ hx3)).trans hx3
            have hx4 := (BB.out.cell (World.block_lt_of_cell? w _ hx4)).trans hx4
            have xR := Lib.hid hxr
            have xL := Lib.hid hxl
            clear hxr hxl
            unfold wholeL at hL
            obtain ⟨m, hm, hL⟩ := Option.bind_eq_some_iff.mp hL
            obtain ⟨e, he, hL⟩ := Option.bind_eq_some_iff.mp hL
            have Hm := Lib.hid hm
            have HE := Lib.hid (fun w1 => vcode_Ends.calls x.f0 e w1 (GG.nil w1) he)
            clear hm he
            obtain ⟨za0, za1, za2, za3⟩ := cells4 (blk_alloc BC.out (.cells #[.int .u8 x.f0, .int .i64 x.f1, .slice A3 x.f2.length c3, .int .i64 x.f3, .int .u32 x.f4] 55 (0, 0)))
            obtain ⟨zy0, zy1, zy2, zy3, zy4⟩ := cells5 (blk_new wr (.cells #[.int .u8 x.f0, .int .i64 x.f1, .slice A3 x.f2.length c3, .int .i64 x.f3, .int .u32 x.f4] 55 (0, 0)))
            have q2 := eq_true hi0
            have q3 := eq_true hlt
            have hltb : decide (i < (l1_0.length : Int)) = true := decide_eq_true hlt
            cases m with
            | false =>
              have hL : some false = some b := hL
              obtain rfl := Option.some.inj hL
              clear hL
              have hr : r = false := Hr.out.symm
              subst hr
              go_wp2_with (first | (go_at_call 123; refine (mayO_calls k a0_0 a0_1 a0_2 _ x A3 c3 _ _ (Kd.C_below xR.out (below_alloc BB.out _)) xL.out (GG.below (below_alloc BB.out _) HG.out) Hm.out).mono ?_; rintro e w4 ⟨rfl, hb⟩; have bC := blk_below (blk_alloc BC.out _) hb; have bX := blk_below (blk_alloc BX.out _) hb; have bN := blk_below (blk_new _ _) hb; have bB := below_then (below_alloc BB.out _) (below_size (below_alloc BB.out _)) hb; have BC2 := Lib.hid bC; have BX2 := Lib.hid bX; have BB2 := Lib.hid bB; obtain ⟨zn0, zn1, zn2, zn3, zn4⟩ := cells5 bN; clear bC bX bN bB hb))
              go_ret
              exact ⟨rfl, BB2.out⟩
            | true =>
              by_cases h5 : decide (i < last) = true
              · cases e with
                | true =>
                  rw [h5] at hL
                  have hL : some false = some b := hL
                  obtain rfl := Option.some.inj hL
                  clear hL
                  have hr : r = false := Hr.out.symm
                  subst hr
                  go_wp2_with (first | (go_at_call 123; refine (mayO_calls k a0_0 a0_1 a0_2 _ x A3 c3 _ _ (Kd.C_below xR.out (below_alloc BB.out _)) xL.out (GG.below (below_alloc BB.out _) HG.out) Hm.out).mono ?_; rintro e w4 ⟨rfl, hb⟩; have bC := blk_below (blk_alloc BC.out _) hb; have bX := blk_below (blk_alloc BX.out _) hb; have bN := blk_below (blk_new _ _) hb; have bB := below_then (below_alloc BB.out _) (below_size (below_alloc BB.out _)) hb; have BC2 := Lib.hid bC; have BX2 := Lib.hid bX; have BB2 := Lib.hid bB; obtain ⟨zn0, zn1, zn2, zn3, zn4⟩ := cells5 bN; clear bC bX bN bB hb) | (go_at_call 34; refine (HE.out _).mono ?_; rintro e w5 ⟨rfl, ⟨nd, rfl⟩⟩))
                  go_ret
                  exact ⟨rfl, pw_below_drewN BB2.out _⟩
                | false =>
                  rw [h5] at hL
                  have HL2 : Hid (wholeL k last a0_1 a0_2 (l1_0.drop (i + 1).toNat) (i + 1) = some b) := Lib.hid hL
                  clear hL
                  go_wp2_with (first | (go_at_call 123; refine (mayO_calls k a0_0 a0_1 a0_2 _ x A3 c3 _ _ (Kd.C_below xR.out (below_alloc BB.out _)) xL.out (GG.below (below_alloc BB.out _) HG.out) Hm.out).mono ?_; rintro e w4 ⟨rfl, hb⟩; have bC := blk_below (blk_alloc BC.out _) hb; have bX := blk_below (blk_alloc BX.out _) hb; have bN := blk_below (blk_new _ _) hb; have bB := below_then (below_alloc BB.out _) (below_size (below_alloc BB.out _)) hb; have BC2 := Lib.hid bC; have BX2 := Lib.hid bX; have BB2 := Lib.hid bB; obtain ⟨zn0, zn1, zn2, zn3, zn4⟩ := cells5 bN; clear bC bX bN bB hb) | (go_at_call 34; refine (HE.out _).mono ?_; rintro e w5 ⟨rfl, ⟨nd, rfl⟩⟩))
                  go_roundw
                  case rel => exact ⟨i + 1, by omega, by omega, by first | rfl | go_num, HL2, Lib.hid (blk_drewN BC2.out _), Lib.hid (blk_drewN BX2.out _), Lib.hid (pw_below_drewN BB2.out _)⟩
                  case measure => simp [intOf]; omega
              · rw [Bool.not_eq_true] at h5
                rw [h5] at hL
                have HL2 : Hid (wholeL k last a0_1 a0_2 (l1_0.drop (i + 1).toNat) (i + 1) = some b) := Lib.hid hL
                clear hL
                go_wp2_with (first | (go_at_call 123; refine (mayO_calls k a0_0 a0_1 a0_2 _ x A3 c3 _ _ (Kd.C_below xR.out (below_alloc BB.out _)) xL.out (GG.below (below_alloc BB.out _) HG.out) Hm.out).mono ?_; rintro e w4 ⟨rfl, hb⟩; have bC := blk_below (blk_alloc BC.out _) hb; have bX := blk_below (blk_alloc BX.out _) hb; have bN := blk_below (blk_new _ _) hb; have bB := below_then (below_alloc BB.out _) (below_size (below_alloc BB.out _)) hb; have BC2 := Lib.hid bC; have BX2 := Lib.hid bX; have BB2 := Lib.hid bB; obtain ⟨zn0, zn1, zn2, zn3, zn4⟩ := cells5 bN; clear bC bX bN bB hb))
                go_roundw
                case rel => exact ⟨i + 1, by omega, by omega, by first | rfl | go_num, HL2, BC2, BX2, BB2⟩
                case measure => simp [intOf]; omega
          · have hie : i = (l1_0.length : Int) := by omega
            have hb : b = true := by
              have hL := HL.out
              rw [hie, List.drop_eq_nil_of_le (by omega)] at hL
              exact (Option.some.inj hL).symm
            subst hb
            have hltb : decide (i < (l1_0.length : Int)) = false := decide_eq_false hlt
            clear hie
            go_wp2_with (first | (go_at_call 124; refine (awayAny_Whole l1_1 A1_1 c1_1 A0_3 l0_3.length c0_3 w.heap.size _ (Kd.C_below HR2.out BB.out) ((blk_cell BC.out 3).trans rfl)).mono ?_; rintro e w3 ⟨rfl, rfl⟩))
            go_ret
            exact ⟨by rw [← Hr.out]; rfl, BB.out⟩
end Go.Proofs.YthgkeehpoilgaaaDoor.Hv

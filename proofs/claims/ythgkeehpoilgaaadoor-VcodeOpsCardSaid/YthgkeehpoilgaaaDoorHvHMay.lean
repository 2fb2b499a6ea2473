import Derived.Outline
import Derived.Lib.Hide
import Derived.Test.YthgkeehpoilgaaaDoorProg
import Derived.Test.YthgkeehpoilgaaaDoorHvx0
import Derived.Test.YthgkeehpoilgaaaDoorHvHAwayMay
import Derived.Test.YthgkeehpoilgaaaDoorHvx5
import Derived.Test.YthgkeehpoilgaaaDoorHvx7
import Derived.Test.YthgkeehpoilgaaaDoorHvx8
namespace Go.Proofs.YthgkeehpoilgaaaDoor.Hv
open Go.RowKit Go.Proofs.YthgkeehpoilgaaaDoorW.PrintWords Go.Proofs.YthgkeehpoilgaaaDoorW.PrintLast Go.Proofs.YthgkeehpoilgaaaDoorW.PrintMore
attribute [local go_sem] max2_int min2_int max_two min_two max_three min_three max_four min_four   -- for this text's walks alone
set_option linter.unusedVariables false
set_option linter.unusedSimpArgs false

/-! ### (mandrel/vcode.Code).may -/
def mayP1 (n : Int) (src : List Int) (takes least : Int) (is : Bool) : Bool := !is || (src.any fun x => awayB x n) || decide ((src.length : Int) < least) || (decide (0 ≤ takes) && ((src.length : Int) != takes))
def mayP2 (n : Int) (dst : Int) (gives free : Bool) : Bool := ((dst != -1) && awayB dst n) || (!free && (gives != (dst != -1)))
def mayP3 (off : Int) (mem nb : Bool) : Bool := ((off != 0) && !mem) || !nb
def mayB (n : Int) (res : Bool) (op dst : Int) (src : List Int) (off : Int) (takes least : Int) (gives free is mem nb : Bool) : Bool :=
  if mayP1 n src takes least is = true then false else if mayP2 n dst gives free = true then false else if mayP3 off mem nb = true then false else
  if op = 15 then (((src.length : Int) == 1) == res) && decide ((src.length : Int) ≤ 1) else true
theorem cells4 {w : World} {g : Nat} {t : TypeId} {a b c d : Value} (h : w.heap[g]? = some (.cells #[a, b, c, d] t (0, 0))) : w.cell? ⟨g, 0, none⟩ = some a ∧ w.cell? ⟨g, 1, none⟩ = some b ∧ w.cell? ⟨g, 2, none⟩ = some c ∧ w.cell? ⟨g, 3, none⟩ = some d := ⟨blk_cell h 0, blk_cell h 1, blk_cell h 2, blk_cell h 3⟩
theorem cells5 {w : World} {g : Nat} {t : TypeId} {a b c d e : Value} (h : w.heap[g]? = some (.cells #[a, b, c, d, e] t (0, 0))) : w.cell? ⟨g, 0, none⟩ = some a ∧ w.cell? ⟨g, 1, none⟩ = some b ∧ w.cell? ⟨g, 2, none⟩ = some c ∧ w.cell? ⟨g, 3, none⟩ = some d ∧ w.cell? ⟨g, 4, none⟩ = some e := ⟨blk_cell h 0, blk_cell h 1, blk_cell h 2, blk_cell h 3, blk_cell h 4⟩
theorem heap_alloc_size2 (w : World) (C : Obj) : (w.alloc C).heap.size = w.heap.size + 1 := by
  show (w.heap.push C).size = _
  exact Array.size_push _
theorem two_blks {w w1 : World} {C X : Obj} (hb : Below ((w.alloc C).alloc X).heap.size ((w.alloc C).alloc X) w1) : w1.heap[w.heap.size]? = some C ∧ w1.heap[w.heap.size + 1]? = some X ∧ Below w.heap.size w w1 := by
  have h1 : (w.alloc C).heap.size = w.heap.size + 1 := heap_alloc_size2 w C
  refine ⟨blk_below (blk_alloc (blk_new w C) X) hb, blk_below (by rw [← h1]; exact blk_new (w.alloc C) X) hb, ?_⟩
  exact below_then (below_alloc (below_alloc (Below.refl w.heap.size w) C) X) (below_size (below_alloc (below_alloc (Below.refl w.heap.size w) C) X)) hb
set_option maxHeartbeats 8000000 in
set_option maxRecDepth 100000 in
theorem may_calls (k : Nat) (params n : Int) (res : Bool) (Ab : Value) (op dst : Int) (As : Option Addr) (cs : Nat) (src : List Int) (nn off : Int)
    (takes least : Int) (gives free is mem nb : Bool) (w : World)
    (hr : Kd.C (Kd.int .i64) w As src.length src) (hc : src.length ≤ cs) (hG : GG [0] w)
    (hs : vcode_shapeOf.f k op = some (takes, least, gives, free, is)) (hm : vcode_memory.f op = some mem) (hn : vcode_numbered.f op dst src nn off = some nb) :
    Calls Tryd.prog 123 #[.agg #[.int .i64 params, .int .i64 n, .bool res, Ab], .agg #[.int .u8 op, .int .i64 dst, .slice As src.length cs, .int .i64 nn, .int .u32 off]] w fun e w' => e = .returned (.bool (mayB n res op dst src off takes least gives free is mem nb)) ∧ Below w.heap.size w w' := by
  have HS := Lib.hid (fun w1 h1 => vcode_shapeOf.calls k op takes least gives free is w1 h1 hs)
  have HM := Lib.hid (fun w1 => vcode_memory.calls op mem w1 (GG.nil w1) hm)
  have HN := Lib.hid (fun w1 h1 => vcode_numbered.calls op dst As cs src nn off nb w1 h1 hc (GG.nil w1) hn)
  have HR := Lib.hid hr
  have HG := Lib.hid hG
  clear hs hm hn hc hr hG
  go_enter Tryd.func123, Tryd.ntmps123
  go_upto_region 3 with (first | (go_at_call 135; refine (HS.out _ (GG.below (by repeat (first | apply below_alloc | exact Below.refl _ _)) HG.out)).mono ?_; rintro e w1 ⟨rfl, hb⟩))
  (try simp only [Act.put, List.setIfInBounds_toArray, List.set_cons_zero, List.set_cons_succ])
  obtain ⟨bC, bX, bB⟩ := two_blks hb
  clear hb
  have bS := blk_new w1 (.cells #[.int .i64 takes, .int .i64 least, .bool gives, .bool free] 209 (0, 0))
  have bC := blk_alloc bC (.cells #[.int .i64 takes, .int .i64 least, .bool gives, .bool free] 209 (0, 0))
  have bX := blk_alloc bX (.cells #[.int .i64 takes, .int .i64 least, .bool gives, .bool free] 209 (0, 0))
  have bB := below_alloc bB (.cells #[.int .i64 takes, .int .i64 least, .bool gives, .bool free] 209 (0, 0))
  revert bC bX bS bB
  generalize w1.alloc (.cells #[.int .i64 takes, .int .i64 least, .bool gives, .bool free] 209 (0, 0)) = w2
  generalize w1.heap.size = gS
  intro bS bC bX bB
  have BC := Lib.hid bC
  have BX := Lib.hid bX
  have BS := Lib.hid bS
  have BB := Lib.hid bB
  clear bC bX bS bB
  go_cut [15] (fun v wc => v = .bool (mayP1 n src takes least is) ∧ Hid (wc.heap[w.heap.size]? = some (.cells #[.int .i64 params, .int .i64 n, .bool res, Ab] 60 (0, 0))) ∧ Hid (wc.heap[w.heap.size + 1]? = some (.cells #[.int .u8 op, .int .i64 dst, .slice As src.length cs, .int .i64 nn, .int .u32 off] 55 (0, 0))) ∧ Hid (wc.heap[gS]? = some (.cells #[.int .i64 takes, .int .i64 least, .bool gives, .bool free] 209 (0, 0))) ∧ Hid (Below w.heap.size w wc))
  case first =>
    obtain ⟨zc0, zc1, zc2, zc3⟩ := cells4 BC.out
    obtain ⟨zx0, zx1, zx2, zx3, zx4⟩ := cells5 BX.out
    obtain ⟨zs0, zs1, zs2, zs3⟩ := cells4 BS.out
    cases is with
    | false =>
      go_wp2
      go_meet
      case rel => exact ⟨rfl, BC, BX, BS, BB⟩
    | true =>
      by_cases h2 : (src.any fun x => awayB x n) = true
      · have H2 := Lib.hid h2
        clear h2
        go_wp2_with (first | (go_at_call 124; refine (awayAny_May src As cs n w.heap.size _ (Kd.C_below HR.out BB.out) ((blk_cell BC.out 1).trans rfl)).mono ?_; rintro e w3 ⟨rfl, rfl⟩; rw [H2.out]))
        go_meet
        case rel => exact ⟨by rw [mayP1, H2.out]; rfl, BC, BX, BS, BB⟩
      · rw [Bool.not_eq_true] at h2
        have H2 := Lib.hid h2
        clear h2
        by_cases h3 : decide ((src.length : Int) < least) = true
        · go_wp2_with (first | (go_at_call 124; refine (awayAny_May src As cs n w.heap.size _ (Kd.C_below HR.out BB.out) ((blk_cell BC.out 1).trans rfl)).mono ?_; rintro e w3 ⟨rfl, rfl⟩; rw [H2.out]))
          go_meet
          case rel => exact ⟨by rw [mayP1, H2.out, h3]; rfl, BC, BX, BS, BB⟩
        · rw [Bool.not_eq_true] at h3
          by_cases h4 : decide (0 ≤ takes) = true
          · go_wp2_with (first | (go_at_call 124; refine (awayAny_May src As cs n w.heap.size _ (Kd.C_below HR.out BB.out) ((blk_cell BC.out 1).trans rfl)).mono ?_; rintro e w3 ⟨rfl, rfl⟩; rw [H2.out]))
            go_meet
            case rel => exact ⟨by rw [mayP1, H2.out, h3, h4]; rfl, BC, BX, BS, BB⟩
          · rw [Bool.not_eq_true] at h4
            go_wp2_with (first | (go_at_call 124; refine (awayAny_May src As cs n w.heap.size _ (Kd.C_below HR.out BB.out) ((blk_cell BC.out 1).trans rfl)).mono ?_; rintro e w3 ⟨rfl, rfl⟩; rw [H2.out]))
            go_meet
            case rel => exact ⟨by rw [mayP1, H2.out, h3, h4]; rfl, BC, BX, BS, BB⟩
  case rest =>
    clear BC BX BS BB
    obtain ⟨rfl, BC, BX, BS, BB⟩ := hcut
    obtain ⟨zc0, zc1, zc2, zc3⟩ := cells4 BC.out
    obtain ⟨zx0, zx1, zx2, zx3, zx4⟩ := cells5 BX.out
    obtain ⟨zs0, zs1, zs2, zs3⟩ := cells4 BS.out
    cases hP1 : mayP1 n src takes least is with
    | true =>
      go_wp2
      go_ret
      exact ⟨by rw [mayB, hP1]; rfl, BB.out⟩
    | false =>
      clear zc0 zc1 zc2 zc3 zx0 zx1 zx2 zx3 zx4 zs0 zs1 zs2 zs3
      go_upto_region 5 with (first | fail)
      go_cut [45] (fun v wc => v = .bool (mayP2 n dst gives free) ∧ Hid (wc.heap[w.heap.size]? = some (.cells #[.int .i64 params, .int .i64 n, .bool res, Ab] 60 (0, 0))) ∧ Hid (wc.heap[w.heap.size + 1]? = some (.cells #[.int .u8 op, .int .i64 dst, .slice As src.length cs, .int .i64 nn, .int .u32 off] 55 (0, 0))) ∧ Hid (wc.heap[gS]? = some (.cells #[.int .i64 takes, .int .i64 least, .bool gives, .bool free] 209 (0, 0))) ∧ Hid (Below w.heap.size w wc))
      case first =>
        obtain ⟨zc0, zc1, zc2, zc3⟩ := cells4 BC.out
        obtain ⟨zx0, zx1, zx2, zx3, zx4⟩ := cells5 BX.out
        obtain ⟨zs0, zs1, zs2, zs3⟩ := cells4 BS.out
        by_cases h6 : (dst != -1) = false
        · skip
          cases free with
          | true =>
            go_wp2
            go_meet
            case rel => exact ⟨by rw [mayP2, h6]; rfl, BC, BX, BS, BB⟩
          | false =>
            cases gives with
            | true =>
              go_wp2
              go_meet
              case rel => exact ⟨by rw [mayP2, h6]; rfl, BC, BX, BS, BB⟩
            | false =>
              go_wp2
              go_meet
              case rel => exact ⟨by rw [mayP2, h6]; rfl, BC, BX, BS, BB⟩
        · rw [Bool.not_eq_false] at h6
          by_cases h7 : awayB dst n = true
          · have H7 := Lib.hid h7
            clear h7
            go_wp2_with (first | (go_at_call 136; refine (away_May dst n w.heap.size _ ((blk_cell BC.out 1).trans rfl)).mono ?_; rintro e w3 ⟨rfl, rfl⟩; rw [H7.out]))
            go_meet
            case rel => exact ⟨by rw [mayP2, h6, H7.out]; rfl, BC, BX, BS, BB⟩
          · rw [Bool.not_eq_true] at h7
            have H7 := Lib.hid h7
            clear h7
            cases free with
            | true =>
              go_wp2_with (first | (go_at_call 136; refine (away_May dst n w.heap.size _ ((blk_cell BC.out 1).trans rfl)).mono ?_; rintro e w3 ⟨rfl, rfl⟩; rw [H7.out]))
              go_meet
              case rel => exact ⟨by rw [mayP2, h6, H7.out]; rfl, BC, BX, BS, BB⟩
            | false =>
              cases gives with
              | true =>
                go_wp2_with (first | (go_at_call 136; refine (away_May dst n w.heap.size _ ((blk_cell BC.out 1).trans rfl)).mono ?_; rintro e w3 ⟨rfl, rfl⟩; rw [H7.out]))
                go_meet
                case rel => exact ⟨by rw [mayP2, h6, H7.out]; rfl, BC, BX, BS, BB⟩
              | false =>
                go_wp2_with (first | (go_at_call 136; refine (away_May dst n w.heap.size _ ((blk_cell BC.out 1).trans rfl)).mono ?_; rintro e w3 ⟨rfl, rfl⟩; rw [H7.out]))
                go_meet
                case rel => exact ⟨by rw [mayP2, h6, H7.out]; rfl, BC, BX, BS, BB⟩
      case rest =>
        clear BC BX BS BB
        obtain ⟨rfl, BC, BX, BS, BB⟩ := hcut
        obtain ⟨zc0, zc1, zc2, zc3⟩ := cells4 BC.out
        obtain ⟨zx0, zx1, zx2, zx3, zx4⟩ := cells5 BX.out
        obtain ⟨zs0, zs1, zs2, zs3⟩ := cells4 BS.out
        cases hP2 : mayP2 n dst gives free with
        | true =>
          go_wp2
          go_ret
          exact ⟨by rw [mayB, hP1, hP2]; rfl, BB.out⟩
        | false =>
          clear zc0 zc1 zc2 zc3 zx0 zx1 zx2 zx3 zx4 zs0 zs1 zs2 zs3
          go_upto_region 7 with (first | fail)
          go_cut [68] (fun v wc => v = .bool (mayP3 off mem nb) ∧ Hid (wc.heap[w.heap.size]? = some (.cells #[.int .i64 params, .int .i64 n, .bool res, Ab] 60 (0, 0))) ∧ Hid (wc.heap[w.heap.size + 1]? = some (.cells #[.int .u8 op, .int .i64 dst, .slice As src.length cs, .int .i64 nn, .int .u32 off] 55 (0, 0))) ∧ Hid (wc.heap[gS]? = some (.cells #[.int .i64 takes, .int .i64 least, .bool gives, .bool free] 209 (0, 0))) ∧ Hid (Below w.heap.size w wc))
          case first =>
            obtain ⟨zc0, zc1, zc2, zc3⟩ := cells4 BC.out
            obtain ⟨zx0, zx1, zx2, zx3, zx4⟩ := cells5 BX.out
            obtain ⟨zs0, zs1, zs2, zs3⟩ := cells4 BS.out
            by_cases h10 : (off != 0) = false
            · cases nb with
              | true =>
                go_wp2_with (first | (go_at_call 137; refine (HN.out _ (Kd.C_below HR.out BB.out)).mono ?_; rintro e w4 ⟨rfl, hb⟩; have nC := Lib.hid (blk_below BC.out hb); have nX := Lib.hid (blk_below BX.out hb); have nS := Lib.hid (blk_below BS.out hb); have nB := Lib.hid (below_then BB.out (below_size BB.out) hb); clear BC BX BS BB hb; have BC := nC; have BX := nX; have BS := nS; have BB := nB; clear nC nX nS nB; obtain ⟨zc0, zc1, zc2, zc3⟩ := cells4 BC.out; obtain ⟨zx0, zx1, zx2, zx3, zx4⟩ := cells5 BX.out; obtain ⟨zs0, zs1, zs2, zs3⟩ := cells4 BS.out))
                go_meet
                case rel => exact ⟨by rw [mayP3, h10]; rfl, BC, BX, BS, BB⟩
              | false =>
                go_wp2_with (first | (go_at_call 137; refine (HN.out _ (Kd.C_below HR.out BB.out)).mono ?_; rintro e w4 ⟨rfl, hb⟩; have nC := Lib.hid (blk_below BC.out hb); have nX := Lib.hid (blk_below BX.out hb); have nS := Lib.hid (blk_below BS.out hb); have nB := Lib.hid (below_then BB.out (below_size BB.out) hb); clear BC BX BS BB hb; have BC := nC; have BX := nX; have BS := nS; have BB := nB; clear nC nX nS nB; obtain ⟨zc0, zc1, zc2, zc3⟩ := cells4 BC.out; obtain ⟨zx0, zx1, zx2, zx3, zx4⟩ := cells5 BX.out; obtain ⟨zs0, zs1, zs2, zs3⟩ := cells4 BS.out))
                go_meet
                case rel => exact ⟨by rw [mayP3, h10]; rfl, BC, BX, BS, BB⟩
            · rw [Bool.not_eq_false] at h10
              cases mem with
              | false =>
                go_wp2_with (first | (go_at_call 131; refine (HM.out _).mono ?_; rintro e w3 ⟨rfl, hb⟩; have nC := Lib.hid (blk_below BC.out hb); have nX := Lib.hid (blk_below BX.out hb); have nS := Lib.hid (blk_below BS.out hb); have nB := Lib.hid (below_then BB.out (below_size BB.out) hb); clear BC BX BS BB hb; have BC := nC; have BX := nX; have BS := nS; have BB := nB; clear nC nX nS nB; obtain ⟨zc0, zc1, zc2, zc3⟩ := cells4 BC.out; obtain ⟨zx0, zx1, zx2, zx3, zx4⟩ := cells5 BX.out; obtain ⟨zs0, zs1, zs2, zs3⟩ := cells4 BS.out))
                go_meet
                case rel => exact ⟨by rw [mayP3, h10]; rfl, BC, BX, BS, BB⟩
              | true =>
                cases nb with
                | true =>
                  go_wp2_with (first | first | (go_at_call 131; refine (HM.out _).mono ?_; rintro e w3 ⟨rfl, hb⟩; have nC := Lib.hid (blk_below BC.out hb); have nX := Lib.hid (blk_below BX.out hb); have nS := Lib.hid (blk_below BS.out hb); have nB := Lib.hid (below_then BB.out (below_size BB.out) hb); clear BC BX BS BB hb; have BC := nC; have BX := nX; have BS := nS; have BB := nB; clear nC nX nS nB; obtain ⟨zc0, zc1, zc2, zc3⟩ := cells4 BC.out; obtain ⟨zx0, zx1, zx2, zx3, zx4⟩ := cells5 BX.out; obtain ⟨zs0, zs1, zs2, zs3⟩ := cells4 BS.out) | (go_at_call 137; refine (HN.out _ (Kd.C_below HR.out BB.out)).mono ?_; rintro e w4 ⟨rfl, hb⟩; have nC := Lib.hid (blk_below BC.out hb); have nX := Lib.hid (blk_below BX.out hb); have nS := Lib.hid (blk_below BS.out hb); have nB := Lib.hid (below_then BB.out (below_size BB.out) hb); clear BC BX BS BB hb; have BC := nC; have BX := nX; have BS := nS; have BB := nB; clear nC nX nS nB; obtain ⟨zc0, zc1, zc2, zc3⟩ := cells4 BC.out; obtain ⟨zx0, zx1, zx2, zx3, zx4⟩ := cells5 BX.out; obtain ⟨zs0, zs1, zs2, zs3⟩ := cells4 BS.out))
                  go_meet
                  case rel => exact ⟨by rw [mayP3, h10]; rfl, BC, BX, BS, BB⟩
                | false =>
                  go_wp2_with (first | first | (go_at_call 131; refine (HM.out _).mono ?_; rintro e w3 ⟨rfl, hb⟩; have nC := Lib.hid (blk_below BC.out hb); have nX := Lib.hid (blk_below BX.out hb); have nS := Lib.hid (blk_below BS.out hb); have nB := Lib.hid (below_then BB.out (below_size BB.out) hb); clear BC BX BS BB hb; have BC := nC; have BX := nX; have BS := nS; have BB := nB; clear nC nX nS nB; obtain ⟨zc0, zc1, zc2, zc3⟩ := cells4 BC.out; obtain ⟨zx0, zx1, zx2, zx3, zx4⟩ := cells5 BX.out; obtain ⟨zs0, zs1, zs2, zs3⟩ := cells4 BS.out) | (go_at_call 137; refine (HN.out _ (Kd.C_below HR.out BB.out)).mono ?_; rintro e w4 ⟨rfl, hb⟩; have nC := Lib.hid (blk_below BC.out hb); have nX := Lib.hid (blk_below BX.out hb); have nS := Lib.hid (blk_below BS.out hb); have nB := Lib.hid (below_then BB.out (below_size BB.out) hb); clear BC BX BS BB hb; have BC := nC; have BX := nX; have BS := nS; have BB := nB; clear nC nX nS nB; obtain ⟨zc0, zc1, zc2, zc3⟩ := cells4 BC.out; obtain ⟨zx0, zx1, zx2, zx3, zx4⟩ := cells5 BX.out; obtain ⟨zs0, zs1, zs2, zs3⟩ := cells4 BS.out))
                  go_meet
                  case rel => exact ⟨by rw [mayP3, h10]; rfl, BC, BX, BS, BB⟩
          case rest =>
            clear BC BX BS BB
            obtain ⟨rfl, BC, BX, BS, BB⟩ := hcut
            obtain ⟨zc0, zc1, zc2, zc3⟩ := cells4 BC.out
            obtain ⟨zx0, zx1, zx2, zx3, zx4⟩ := cells5 BX.out
            obtain ⟨zs0, zs1, zs2, zs3⟩ := cells4 BS.out
            cases hP3 : mayP3 off mem nb with
            | true =>
              go_wp2
              go_ret
              exact ⟨by rw [mayB, hP1, hP2, hP3]; rfl, BB.out⟩
            | false =>
              by_cases h13 : (op == 15) = true
              · have e13 : op = 15 := by simpa using h13
                by_cases h14 : (((src.length : Int) == 1) == res) = true
                · skip
                  go_wp2
                  go_ret
                  exact ⟨by rw [mayB, hP1, hP2, hP3, if_pos e13, h14]; rfl, BB.out⟩
                · rw [Bool.not_eq_true] at h14
                  go_wp2
                  go_ret
                  exact ⟨by rw [mayB, hP1, hP2, hP3, if_pos e13, h14]; rfl, BB.out⟩
              · have e13 : ¬ op = 15 := by simpa using h13
                rw [Bool.not_eq_true] at h13
                go_wp2
                go_ret
                exact ⟨by rw [mayB, hP1, hP2, hP3, if_neg e13]; rfl, BB.out⟩
end Go.Proofs.YthgkeehpoilgaaaDoor.Hv

import Derived.Outline
import Derived.Lib.Hide
import Derived.LoopTactic
import Derived.Deep.LoopGhost
import Derived.Deep.QuietTactic
import Derived.Deep.RegionHeld3
import Derived.BigQuiet
import Derived.Test.YthgkeehpoilgaaaDoorProg
import Derived.Test.YthgkeehpoilgaaaDoorHvx0
import Derived.Test.YthgkeehpoilgaaaDoorHvHBldK
import Derived.Test.YthgkeehpoilgaaaDoorHvHWhole
import Derived.Test.YthgkeehpoilgaaaDoorHvx9
import Derived.Test.YthgkeehpoilgaaaDoorHvx11
import Derived.Test.YthgkeehpoilgaaaDoorHvHStrconv
namespace Go.Proofs.YthgkeehpoilgaaaDoor.Hv
open Go.RowKit Go.Proofs.YthgkeehpoilgaaaDoorW.PrintWords Go.Proofs.YthgkeehpoilgaaaDoorW.PrintLast Go.Proofs.YthgkeehpoilgaaaDoorW.PrintMore
attribute [local go_sem] max2_int min2_int max_two min_two max_three min_three max_four min_four   -- for this text's walks alone
set_option linter.unusedVariables false
set_option linter.unusedSimpArgs false

/-! ### vcode.Text -/
def txtMax : Nat := 140737488355328
def textIns (k : Nat) (nxt : List Int) : List S55 → ByteArray → Option ByteArray
  | [], acc => some acc
  | x :: r, acc => (vcode_Ins_line.f k x.f0 x.f1 x.f2 x.f3 x.f4 nxt).bind fun s => if acc.size + s.size ≤ txtMax then textIns k nxt r (acc ++ s) else none
def textHead (a d : ByteArray) : ByteArray := (((((⟨#[98, 108, 111, 99, 107, 32]⟩ : ByteArray) ++ a) ++ (⟨#[32, 100, 101, 112, 116, 104, 32]⟩ : ByteArray)) ++ d) ++ (⟨#[10]⟩ : ByteArray))
/-- the inner none: more than api.MaxText bytes -/
def textBlocks (k : Nat) : List S57 → Int → ByteArray → Option (Option ByteArray)
  | [], _, acc => some (some acc)
  | x :: r, i, acc => (itoaF i).bind fun a => (itoaF x.f2).bind fun d => if acc.size + (textHead a d).size ≤ txtMax then
      ((textIns k x.f1 x.f0 (acc ++ textHead a d)).bind fun acc2 => if 65536 < acc2.size then some none else textBlocks k r (i + 1) acc2) else none
def textOne (a p : ByteArray) : ByteArray := ((((⟨#[114, 101, 103, 115, 32]⟩ : ByteArray) ++ a) ++ (⟨#[32, 112, 97, 114, 97, 109, 115, 32]⟩ : ByteArray)) ++ p)
def textFirst (a p : ByteArray) (result : Bool) : ByteArray := if result = true then ((⟨#[]⟩ ++ textOne a p) ++ (⟨#[32, 114, 101, 115, 117, 108, 116]⟩ : ByteArray)) else (⟨#[]⟩ ++ textOne a p)
def vcode_Text.f (k : Nat) (params regs : Int) (result : Bool) (blocks : List S57) : Option (ByteArray × Option Int) :=
  (vcode_Check.f k params regs result blocks).bind fun e => match e with
    | some n => some ((⟨#[]⟩ : ByteArray), some n)
    | none => (itoaF regs).bind fun a => (itoaF params).bind fun p => if (textFirst a p result).size + 1 ≤ txtMax then
      ((textBlocks k blocks 0 (textFirst a p result ++ (⟨#[10]⟩ : ByteArray))).bind fun t => match t with
        | none => some ((⟨#[]⟩ : ByteArray), some 2)
        | some b => some (b, none)) else none
theorem one_blk {w w1 : World} {C : Obj} (hb : Below (w.alloc C).heap.size (w.alloc C) w1) : w1.heap[w.heap.size]? = some C ∧ Below w.heap.size w w1 := by
  refine ⟨blk_below (blk_new w C) hb, ?_⟩
  exact below_then (below_alloc (Below.refl w.heap.size w) C) (below_size (below_alloc (Below.refl w.heap.size w) C)) hb
abbrev BdK (b : Nat) (acc : ByteArray) (w : World) : Prop := Lib.IsBuilderF 179 5 b b (Lib.strCells acc) w
theorem bdK_new (w : World) : BdK w.heap.size ⟨#[]⟩ (w.alloc (.cells #[.pointer none, .slice none 0 0] 179 (0, 0))) := Lib.IsBuilderF.of (Lib.fresh_isBuilder _ _ w)
theorem drop_S55 (l : List S55) (i : Int) (h0 : 0 ≤ i) (h1 : i < (l.length : Int)) : l.drop i.toNat = rd_T55 l i :: l.drop (i + 1).toNat := by
  have hn : i.toNat < l.length := by omega
  rw [List.drop_eq_getElem_cons hn, show (i + 1).toNat = i.toNat + 1 by omega]
  simp [rd_T55, List.getD_eq_getElem?_getD, List.getElem?_eq_getElem hn]
theorem drop_S57 (l : List S57) (i : Int) (h0 : 0 ≤ i) (h1 : i < (l.length : Int)) : l.drop i.toNat = rd_T57 l i :: l.drop (i + 1).toNat := by
  have hn : i.toNat < l.length := by omega
  rw [List.drop_eq_getElem_cons hn, show (i + 1).toNat = i.toNat + 1 by omega]
  simp [rd_T57, List.getD_eq_getElem?_getD, List.getElem?_eq_getElem hn]
set_option maxHeartbeats 8000000 in
set_option maxRecDepth 100000 in
theorem vcode_Text.calls (k : Nat) (a0_0 : Int) (a0_1 : Int) (a0_2 : Bool) (A0_3 : Option Addr) (c0_3 : Nat) (l0_3 : List S57) (r1 : ByteArray) (r2 : Option Int) (w : World)
    (hr0_3 : Kd.C k57 w A0_3 l0_3.length l0_3) (hc0_3 : l0_3.length ≤ c0_3) (hG : GG [0, 4] w)
    (h : vcode_Text.f k a0_0 a0_1 a0_2 l0_3 = some (r1, r2)) :
    Calls Tryd.prog 77 #[.agg #[.int .i64 a0_0, .int .i64 a0_1, .bool a0_2, .slice A0_3 l0_3.length c0_3]] w fun e w' => e = .returned (.tuple #[.string r1, errW r2]) ∧ Below w.heap.size w w' := by
  have hlen := hr0_3.2.1
  unfold vcode_Text.f at h
  obtain ⟨e, he, h⟩ := Option.bind_eq_some_iff.mp h
  have HR := Lib.hid hr0_3
  have HCK := Lib.hid (fun w1 h1 h2 => vcode_Check.calls k a0_0 a0_1 a0_2 A0_3 c0_3 l0_3 e w1 h1 hc0_3 h2 he)
  have HG0 := Lib.hid (GG.sub hG (t := [0]) (by simp))
  have HG4 := Lib.hid (GG.sub hG (t := [4]) (by simp))
  clear he hr0_3 hG
  have hb0 := below_alloc (Below.refl w.heap.size w) (.cells #[.int .i64 a0_0, .int .i64 a0_1, .bool a0_2, .slice A0_3 l0_3.length c0_3] 60 (0, 0))
  have HB0 := Lib.hid hb0
  clear hb0
  cases e with
  | some n =>
    have h : some ((⟨#[]⟩ : ByteArray), some n) = some (r1, r2) := h
    obtain ⟨rfl, rfl⟩ := Prod.mk.inj (Option.some.inj h)
    clear h
    have HCK : Hid (∀ w1, Kd.C k57 w1 A0_3 l0_3.length l0_3 → GG [0] w1 → Calls Tryd.prog 73 #[.agg #[.int .i64 a0_0, .int .i64 a0_1, .bool a0_2, .slice A0_3 l0_3.length c0_3]] w1 fun e w' => e = .returned (.iface 99 (.int .i64 n)) ∧ Below w1.heap.size w1 w') := Lib.hid (fun w1 h1 h2 => HCK.out w1 h1 h2)
    go_enter Tryd.func77, Tryd.ntmps77
    go_wp2_with (first | (go_at_call 73; refine (HCK.out _ (Kd.C_below HR.out HB0.out) (GG.below HB0.out HG0.out)).mono ?_; rintro e w1 ⟨rfl, hb⟩))
    go_ret2
    exact ⟨rfl, (one_blk hb).2⟩
  | none =>
    have HCK : Hid (∀ w1, Kd.C k57 w1 A0_3 l0_3.length l0_3 → GG [0] w1 → Calls Tryd.prog 73 #[.agg #[.int .i64 a0_0, .int .i64 a0_1, .bool a0_2, .slice A0_3 l0_3.length c0_3]] w1 fun e w' => e = .returned .nilIface ∧ Below w1.heap.size w1 w') := Lib.hid (fun w1 h1 h2 => HCK.out w1 h1 h2)
    obtain ⟨sa, hsa, h⟩ := Option.bind_eq_some_iff.mp h
    obtain ⟨sp, hsp, h⟩ := Option.bind_eq_some_iff.mp h
    by_cases hmx : (textFirst sa sp a0_2).size + 1 ≤ txtMax
    · rw [if_pos hmx] at h
      obtain ⟨t, ht, h⟩ := Option.bind_eq_some_iff.mp h
      have HA := Lib.hid (fun w1 h1 => strconv_Itoa.calls a0_1 sa w1 h1 hsa)
      have HP := Lib.hid (fun w1 h1 => strconv_Itoa.calls a0_0 sp w1 h1 hsp)
      have HT := Lib.hid ht
      have HH := Lib.hid h
      clear hsa hsp ht h
      have hmx2 : (textFirst sa sp a0_2).size + (⟨#[10]⟩ : ByteArray).size ≤ 140737488355328 := hmx
      have ho1 : (⟨#[]⟩ : ByteArray).size + (textOne sa sp).size ≤ 140737488355328 := by
        have h1 := hmx2
        unfold textFirst at h1
        split at h1 <;> simp only [ByteArray.size_append] at h1 ⊢ <;> omega
      have ho2 : a0_2 = true → (⟨#[]⟩ ++ textOne sa sp : ByteArray).size + (⟨#[32, 114, 101, 115, 117, 108, 116]⟩ : ByteArray).size ≤ 140737488355328 := by
        intro hr
        have h1 := hmx2
        unfold textFirst at h1
        rw [if_pos hr] at h1
        simp only [ByteArray.size_append] at h1 ⊢
        omega
      have HO1 := Lib.hid ho1
      have HO2 := Lib.hid ho2
      have HO3 := Lib.hid hmx2
      clear hmx hmx2 ho1 ho2
      go_enter Tryd.func77, Tryd.ntmps77
      go_upto_region 5 with (first | (go_at_call 73; refine (HCK.out _ (Kd.C_below HR.out HB0.out) (GG.below HB0.out HG0.out)).mono ?_; rintro e w1 ⟨rfl, hb⟩))
      (try simp only [Act.put, List.setIfInBounds_toArray, List.set_cons_zero, List.set_cons_succ])
      obtain ⟨bC, bB⟩ := one_blk hb
      clear hb HCK
      have hgb : w.heap.size < w1.heap.size := blk_lt bC
      have bD := bdK_new w1
      have bC := blk_alloc bC (.cells #[.pointer none, .slice none 0 0] 179 (0, 0))
      have bB := below_alloc bB (.cells #[.pointer none, .slice none 0 0] 179 (0, 0))
      revert bC bD bB
      generalize w1.alloc (.cells #[.pointer none, .slice none 0 0] 179 (0, 0)) = w2
      revert hgb
      generalize w1.heap.size = gB
      intro hgb bD bC bB
      have BC := Lib.hid bC
      have BD := Lib.hid bD
      have BB := Lib.hid bB
      have GB := Lib.hid hgb
      clear bC bD bB hgb
      go_cut [] (fun wc => Hid (BdK gB (⟨#[]⟩ ++ textOne sa sp) wc) ∧ Hid (wc.heap[w.heap.size]? = some (.cells #[.int .i64 a0_0, .int .i64 a0_1, .bool a0_2, .slice A0_3 l0_3.length c0_3] 60 (0, 0))) ∧ Hid (Below w.heap.size w wc))
      case first =>
        obtain ⟨zc0, zc1, zc2, zc3⟩ := cells4 BC.out
        have j0 : 5 + sa.size ≤ 9223372036854775807 := by first | exact Nat.le_trans (by simp only [textOne, textHead, ByteArray.size_append, show (⟨#[]⟩ : ByteArray).size = 0 from rfl, show (⟨#[114, 101, 103, 115, 32]⟩ : ByteArray).size = 5 from rfl, show (⟨#[32, 112, 97, 114, 97, 109, 115, 32]⟩ : ByteArray).size = 8 from rfl, show (⟨#[98, 108, 111, 99, 107, 32]⟩ : ByteArray).size = 6 from rfl, show (⟨#[32, 100, 101, 112, 116, 104, 32]⟩ : ByteArray).size = 7 from rfl, show (⟨#[10]⟩ : ByteArray).size = 1 from rfl]; omega) (Nat.le_trans HO1.out (by decide))
        have j0a := eq_true j0; have j0b := eq_false (Nat.not_lt.2 j0); have j0c := decide_eq_true j0
        have j1 : 5 + sa.size + 8 ≤ 9223372036854775807 := by first | exact Nat.le_trans (by simp only [textOne, textHead, ByteArray.size_append, show (⟨#[]⟩ : ByteArray).size = 0 from rfl, show (⟨#[114, 101, 103, 115, 32]⟩ : ByteArray).size = 5 from rfl, show (⟨#[32, 112, 97, 114, 97, 109, 115, 32]⟩ : ByteArray).size = 8 from rfl, show (⟨#[98, 108, 111, 99, 107, 32]⟩ : ByteArray).size = 6 from rfl, show (⟨#[32, 100, 101, 112, 116, 104, 32]⟩ : ByteArray).size = 7 from rfl, show (⟨#[10]⟩ : ByteArray).size = 1 from rfl]; omega) (Nat.le_trans HO1.out (by decide))
        have j1a := eq_true j1; have j1b := eq_false (Nat.not_lt.2 j1); have j1c := decide_eq_true j1
        have j2 : 5 + sa.size + 8 + sp.size ≤ 9223372036854775807 := by first | exact Nat.le_trans (by simp only [textOne, textHead, ByteArray.size_append, show (⟨#[]⟩ : ByteArray).size = 0 from rfl, show (⟨#[114, 101, 103, 115, 32]⟩ : ByteArray).size = 5 from rfl, show (⟨#[32, 112, 97, 114, 97, 109, 115, 32]⟩ : ByteArray).size = 8 from rfl, show (⟨#[98, 108, 111, 99, 107, 32]⟩ : ByteArray).size = 6 from rfl, show (⟨#[32, 100, 101, 112, 116, 104, 32]⟩ : ByteArray).size = 7 from rfl, show (⟨#[10]⟩ : ByteArray).size = 1 from rfl]; omega) (Nat.le_trans HO1.out (by decide))
        have j2a := eq_true j2; have j2b := eq_false (Nat.not_lt.2 j2); have j2c := decide_eq_true j2
        have j3 : ((⟨#[114, 101, 103, 115, 32]⟩ : ByteArray) ++ sa).size + 8 ≤ 9223372036854775807 := by first | exact Nat.le_trans (by simp only [textOne, textHead, ByteArray.size_append, show (⟨#[]⟩ : ByteArray).size = 0 from rfl, show (⟨#[114, 101, 103, 115, 32]⟩ : ByteArray).size = 5 from rfl, show (⟨#[32, 112, 97, 114, 97, 109, 115, 32]⟩ : ByteArray).size = 8 from rfl, show (⟨#[98, 108, 111, 99, 107, 32]⟩ : ByteArray).size = 6 from rfl, show (⟨#[32, 100, 101, 112, 116, 104, 32]⟩ : ByteArray).size = 7 from rfl, show (⟨#[10]⟩ : ByteArray).size = 1 from rfl]; omega) (Nat.le_trans HO1.out (by decide))
        have j3a := eq_true j3; have j3b := eq_false (Nat.not_lt.2 j3); have j3c := decide_eq_true j3
        have j4 : ((⟨#[114, 101, 103, 115, 32]⟩ : ByteArray) ++ sa ++ (⟨#[32, 112, 97, 114, 97, 109, 115, 32]⟩ : ByteArray)).size + sp.size ≤ 9223372036854775807 := by first | exact Nat.le_trans (by simp only [textOne, textHead, ByteArray.size_append, show (⟨#[]⟩ : ByteArray).size = 0 from rfl, show (⟨#[114, 101, 103, 115, 32]⟩ : ByteArray).size = 5 from rfl, show (⟨#[32, 112, 97, 114, 97, 109, 115, 32]⟩ : ByteArray).size = 8 from rfl, show (⟨#[98, 108, 111, 99, 107, 32]⟩ : ByteArray).size = 6 from rfl, show (⟨#[32, 100, 101, 112, 116, 104, 32]⟩ : ByteArray).size = 7 from rfl, show (⟨#[10]⟩ : ByteArray).size = 1 from rfl]; omega) (Nat.le_trans HO1.out (by decide))
        have j4a := eq_true j4; have j4b := eq_false (Nat.not_lt.2 j4); have j4c := decide_eq_true j4
        go_region_held3 (fun w' => w'.cell? ⟨w.heap.size, 0, none⟩ = some (.int .i64 a0_0) ∧ w'.cell? ⟨w.heap.size, 1, none⟩ = some (.int .i64 a0_1)) (first | go_keep | exact ⟨(cells4 BC4.out).1, (cells4 BC4.out).2.1⟩ | exact ⟨(cells4 BC5.out).1, (cells4 BC5.out).2.1⟩ | exact ⟨(cells4 BC6.out).1, (cells4 BC6.out).2.1⟩)
          (first
            | (go_at_call 109; refine (HA.out _ ?_).mono ?_; (exact GG.below (below_drew BB.out) HG4.out); rintro e w4 ⟨rfl, hb4⟩; have BC4 := Lib.hid (blk_below (blk_drew BC.out) hb4); have BD4 := Lib.hid (bldF_below (W := w2.drew) BD.out hb4); have BB4 := Lib.hid (below_then (below_drew BB.out) (below_size (below_drew BB.out)) hb4); clear hb4)
            | (go_at_call 109; refine (HP.out _ ?_).mono ?_; (exact GG.below BB4.out HG4.out); rintro e w5 ⟨rfl, hb5⟩; have BC5 := Lib.hid (blk_below BC4.out hb5); have BD5 := Lib.hid (bldF_below BD4.out hb5); have BB5 := Lib.hid (below_then BB4.out (below_size BB4.out) hb5); clear hb5)
            | (go_at_call 108; refine (bld_write gB ⟨#[]⟩ (textOne sa sp) _ BD5.out HO1.out).mono ?_; rintro e w6 ⟨rfl, bd6, hb6, hk6⟩; have BC6 := Lib.hid (keep_box BD5.out hk6 BC5.out (by decide) (by decide)); have BD6 := Lib.hid bd6; have BB6 := Lib.hid (BB5.out.trans (below_lower hb6 (Nat.le_of_lt GB.out))); clear bd6 hb6 hk6))
        go_wp2
        go_meet
        case rel => exact ⟨BD6, BC6, BB6⟩
      case rest =>
        clear BC BD BB HA HP
        obtain ⟨BD, BC, BB⟩ := hcut
        obtain ⟨zc0, zc1, zc2, zc3⟩ := cells4 BC.out
        go_upto_if 26 with (first | fail)
        (try simp only [Act.put, List.setIfInBounds_toArray, List.set_cons_zero, List.set_cons_succ])
        clear zc0 zc1 zc2 zc3
        go_cut [] (fun wc => Hid (BdK gB (textFirst sa sp a0_2) wc) ∧ Hid (wc.heap[w.heap.size]? = some (.cells #[.int .i64 a0_0, .int .i64 a0_1, .bool a0_2, .slice A0_3 l0_3.length c0_3] 60 (0, 0))) ∧ Hid (Below w.heap.size w wc))
        case first =>
          cases a0_2 with
          | true =>
            go_wp2_with (first | (go_at_call 108; refine (bld_write gB (⟨#[]⟩ ++ textOne sa sp) ⟨#[32, 114, 101, 115, 117, 108, 116]⟩ _ BD.out (HO2.out rfl)).mono ?_; rintro e w6 ⟨rfl, bd6, hb6, hk6⟩; have BC6 := Lib.hid (keep_box BD.out hk6 BC.out (by decide) (by decide)); have BD6 := Lib.hid bd6; have BB6 := Lib.hid (BB.out.trans (below_lower hb6 (Nat.le_of_lt GB.out))); clear bd6 hb6 hk6))
            go_meet
            case rel => exact ⟨Lib.hid (by unfold textFirst; rw [if_pos rfl]; exact BD6.out), BC6, BB6⟩
          | false =>
            go_wp2
            go_meet
            case rel => exact ⟨Lib.hid (by unfold textFirst; rw [if_neg (by decide)]; exact BD.out), BC, BB⟩
        case rest =>
          clear BC BD BB HO1 HO2
          obtain ⟨BD, BC, BB⟩ := hcut
          go_upto_region 9 with (first | (go_at_call 108; refine (bld_write gB (textFirst sa sp a0_2) ⟨#[10]⟩ _ BD.out HO3.out).mono ?_; rintro e w6 ⟨rfl, bd6, hb6, hk6⟩; have BC6 := Lib.hid (keep_box BD.out hk6 BC.out (by decide) (by decide)); have BD6 := Lib.hid bd6; have BB6 := Lib.hid (BB.out.trans (below_lower hb6 (Nat.le_of_lt GB.out))); clear bd6 hb6 hk6))
          clear BD BC BB HO3
          obtain ⟨zc0, zc1, zc2, zc3⟩ := cells4 BC6.out
          go_wp2
          clear zc0 zc1 zc2 zc3 BC6
          go_loopg [32] l0_3.length (fun g v wc => ∃ (i : Int) (acc : ByteArray), v = .int .i64 i ∧ 0 ≤ i ∧ i ≤ (l0_3.length : Int) ∧ g = ((l0_3.length : Int) - i).toNat ∧ Hid (textBlocks k (l0_3.drop i.toNat) i acc = some t) ∧ Hid (BdK gB acc wc) ∧ Hid (Below w.heap.size w wc))
          case atStart => exact ⟨0, _, rfl, by omega, by omega, by omega, HT, BD6, BB6⟩
          case round =>
            clear BD6 BB6 HT
            obtain ⟨i, acc, rfl, hi0, hi1, rfl, HT, BD, BB⟩ := hrel
            by_cases hlt : i < (l0_3.length : Int)
            · obtain ⟨ad, A0, c0, A1, c1, e3, hx0, hx1, hx2, hl0, hrI, hl1, hrN⟩ := at_T57 HR.out i hi0 hlt
              cases e3
              have hT := HT.out
              rw [drop_S57 l0_3 i hi0 hlt] at hT
              generalize hxe : rd_T57 l0_3 i = x at hx0 hx1 hx2 hl0 hrI hl1 hrN hT
              clear hxe HT
              unfold textBlocks at hT
              obtain ⟨sa', hsa, hT⟩ := Option.bind_eq_some_iff.mp hT
              obtain ⟨sd, hsd, hT⟩ := Option.bind_eq_some_iff.mp hT
              by_cases hmx : acc.size + (textHead sa' sd).size ≤ txtMax
              · rw [if_pos hmx] at hT
                obtain ⟨acc2, hins, hT⟩ := Option.bind_eq_some_iff.mp hT
                have HA := Lib.hid (fun w1 h1 => strconv_Itoa.calls i sa' w1 h1 hsa)
                have HP := Lib.hid (fun w1 h1 => strconv_Itoa.calls x.f2 sd w1 h1 hsd)
                have HO := Lib.hid (show acc.size + (textHead sa' sd).size ≤ 140737488355328 from hmx)
                have HI := Lib.hid hins
                have HT := Lib.hid hT
                have xI := Lib.hid hrI
                have xN := Lib.hid hrN
                have xlI := hrI.2.1
                have xl1 := Lib.hid hl1
                have hx0 := (BB.out.cell (World.block_lt_of_cell? w _ hx0)).trans hx0
                have hx1 := (BB.out.cell (World.block_lt_of_cell? w _ hx1)).trans hx1
                have hx2 := (BB.out.cell (World.block_lt_of_cell? w _ hx2)).trans hx2
                clear hsa hsd hmx hins hT hrI hrN hl0 hl1
                have q2 := eq_true hi0
                have q3 := eq_true hlt
                have hltb : decide (i < (l0_3.length : Int)) = true := decide_eq_true hlt
                go_upto_region 12 with (first | fail)
                (try simp only [Act.put, List.setIfInBounds_toArray, List.set_cons_zero, List.set_cons_succ])
                clear hx0 hx1 hx2 q2 q3 hltb
                have bX := blk_new wr (.cells #[.slice A0 x.f0.length c0, .slice A1 x.f1.length c1, .int .i64 x.f2] 57 (0, 0))
                have bD := bldF_below BD.out (below_alloc (Below.refl wr.heap.size wr) (.cells #[.slice A0 x.f0.length c0, .slice A1 x.f1.length c1, .int .i64 x.f2] 57 (0, 0)))
                have bB := below_alloc BB.out (.cells #[.slice A0 x.f0.length c0, .slice A1 x.f1.length c1, .int .i64 x.f2] 57 (0, 0))
                revert bX bD bB
                generalize wr.alloc (.cells #[.slice A0 x.f0.length c0, .slice A1 x.f1.length c1, .int .i64 x.f2] 57 (0, 0)) = w3
                generalize wr.heap.size = gX
                intro bX bD bB
                clear BD BB
                have BX := Lib.hid bX
                have BD := Lib.hid bD
                have BB := Lib.hid bB
                clear bX bD bB
                go_cut [] (fun wc => Hid (BdK gB (acc ++ textHead sa' sd) wc) ∧ Hid (wc.heap[gX]? = some (.cells #[.slice A0 x.f0.length c0, .slice A1 x.f1.length c1, .int .i64 x.f2] 57 (0, 0))) ∧ Hid (Below w.heap.size w wc))
                case first =>
                  obtain ⟨zx0, zx1, zx2⟩ := cells3 BX.out
                  have j0 : 6 + sa'.size ≤ 9223372036854775807 := by first | exact Nat.le_trans (by simp only [textOne, textHead, ByteArray.size_append, show (⟨#[]⟩ : ByteArray).size = 0 from rfl, show (⟨#[114, 101, 103, 115, 32]⟩ : ByteArray).size = 5 from rfl, show (⟨#[32, 112, 97, 114, 97, 109, 115, 32]⟩ : ByteArray).size = 8 from rfl, show (⟨#[98, 108, 111, 99, 107, 32]⟩ : ByteArray).size = 6 from rfl, show (⟨#[32, 100, 101, 112, 116, 104, 32]⟩ : ByteArray).size = 7 from rfl, show (⟨#[10]⟩ : ByteArray).size = 1 from rfl]; omega) (Nat.le_trans HO.out (by decide))
                  have j0a := eq_true j0; have j0b := eq_false (Nat.not_lt.2 j0); have j0c := decide_eq_true j0
                  have j1 : 6 + sa'.size + 7 ≤ 9223372036854775807 := by first | exact Nat.le_trans (by simp only [textOne, textHead, ByteArray.size_append, show (⟨#[]⟩ : ByteArray).size = 0 from rfl, show (⟨#[114, 101, 103, 115, 32]⟩ : ByteArray).size = 5 from rfl, show (⟨#[32, 112, 97, 114, 97, 109, 115, 32]⟩ : ByteArray).size = 8 from rfl, show (⟨#[98, 108, 111, 99, 107, 32]⟩ : ByteArray).size = 6 from rfl, show (⟨#[32, 100, 101, 112, 116, 104, 32]⟩ : ByteArray).size = 7 from rfl, show (⟨#[10]⟩ : ByteArray).size = 1 from rfl]; omega) (Nat.le_trans HO.out (by decide))
                  have j1a := eq_true j1; have j1b := eq_false (Nat.not_lt.2 j1); have j1c := decide_eq_true j1
                  have j2 : 6 + sa'.size + 7 + sd.size ≤ 9223372036854775807 := by first | exact Nat.le_trans (by simp only [textOne, textHead, ByteArray.size_append, show (⟨#[]⟩ : ByteArray).size = 0 from rfl, show (⟨#[114, 101, 103, 115, 32]⟩ : ByteArray).size = 5 from rfl, show (⟨#[32, 112, 97, 114, 97, 109, 115, 32]⟩ : ByteArray).size = 8 from rfl, show (⟨#[98, 108, 111, 99, 107, 32]⟩ : ByteArray).size = 6 from rfl, show (⟨#[32, 100, 101, 112, 116, 104, 32]⟩ : ByteArray).size = 7 from rfl, show (⟨#[10]⟩ : ByteArray).size = 1 from rfl]; omega) (Nat.le_trans HO.out (by decide))
                  have j2a := eq_true j2; have j2b := eq_false (Nat.not_lt.2 j2); have j2c := decide_eq_true j2
                  have j3 : 6 + sa'.size + 7 + sd.size + 1 ≤ 9223372036854775807 := by first | exact Nat.le_trans (by simp only [textOne, textHead, ByteArray.size_append, show (⟨#[]⟩ : ByteArray).size = 0 from rfl, show (⟨#[114, 101, 103, 115, 32]⟩ : ByteArray).size = 5 from rfl, show (⟨#[32, 112, 97, 114, 97, 109, 115, 32]⟩ : ByteArray).size = 8 from rfl, show (⟨#[98, 108, 111, 99, 107, 32]⟩ : ByteArray).size = 6 from rfl, show (⟨#[32, 100, 101, 112, 116, 104, 32]⟩ : ByteArray).size = 7 from rfl, show (⟨#[10]⟩ : ByteArray).size = 1 from rfl]; omega) (Nat.le_trans HO.out (by decide))
                  have j3a := eq_true j3; have j3b := eq_false (Nat.not_lt.2 j3); have j3c := decide_eq_true j3
                  have j4 : ((⟨#[98, 108, 111, 99, 107, 32]⟩ : ByteArray) ++ sa').size + 7 ≤ 9223372036854775807 := by first | exact Nat.le_trans (by simp only [textOne, textHead, ByteArray.size_append, show (⟨#[]⟩ : ByteArray).size = 0 from rfl, show (⟨#[114, 101, 103, 115, 32]⟩ : ByteArray).size = 5 from rfl, show (⟨#[32, 112, 97, 114, 97, 109, 115, 32]⟩ : ByteArray).size = 8 from rfl, show (⟨#[98, 108, 111, 99, 107, 32]⟩ : ByteArray).size = 6 from rfl, show (⟨#[32, 100, 101, 112, 116, 104, 32]⟩ : ByteArray).size = 7 from rfl, show (⟨#[10]⟩ : ByteArray).size = 1 from rfl]; omega) (Nat.le_trans HO.out (by decide))
                  have j4a := eq_true j4; have j4b := eq_false (Nat.not_lt.2 j4); have j4c := decide_eq_true j4
                  have j5 : ((⟨#[98, 108, 111, 99, 107, 32]⟩ : ByteArray) ++ sa' ++ (⟨#[32, 100, 101, 112, 116, 104, 32]⟩ : ByteArray)).size + sd.size ≤ 9223372036854775807 := by first | exact Nat.le_trans (by simp only [textOne, textHead, ByteArray.size_append, show (⟨#[]⟩ : ByteArray).size = 0 from rfl, show (⟨#[114, 101, 103, 115, 32]⟩ : ByteArray).size = 5 from rfl, show (⟨#[32, 112, 97, 114, 97, 109, 115, 32]⟩ : ByteArray).size = 8 from rfl, show (⟨#[98, 108, 111, 99, 107, 32]⟩ : ByteArray).size = 6 from rfl, show (⟨#[32, 100, 101, 112, 116, 104, 32]⟩ : ByteArray).size = 7 from rfl, show (⟨#[10]⟩ : ByteArray).size = 1 from rfl]; omega) (Nat.le_trans HO.out (by decide))
                  have j5a := eq_true j5; have j5b := eq_false (Nat.not_lt.2 j5); have j5c := decide_eq_true j5
                  have j6 : ((⟨#[98, 108, 111, 99, 107, 32]⟩ : ByteArray) ++ sa' ++ (⟨#[32, 100, 101, 112, 116, 104, 32]⟩ : ByteArray) ++ sd).size + 1 ≤ 9223372036854775807 := by first | exact Nat.le_trans (by simp only [textOne, textHead, ByteArray.size_append, show (⟨#[]⟩ : ByteArray).size = 0 from rfl, show (⟨#[114, 101, 103, 115, 32]⟩ : ByteArray).size = 5 from rfl, show (⟨#[32, 112, 97, 114, 97, 109, 115, 32]⟩ : ByteArray).size = 8 from rfl, show (⟨#[98, 108, 111, 99, 107, 32]⟩ : ByteArray).size = 6 from rfl, show (⟨#[32, 100, 101, 112, 116, 104, 32]⟩ : ByteArray).size = 7 from rfl, show (⟨#[10]⟩ : ByteArray).size = 1 from rfl]; omega) (Nat.le_trans HO.out (by decide))
                  have j6a := eq_true j6; have j6b := eq_false (Nat.not_lt.2 j6); have j6c := decide_eq_true j6
                  go_region_held3 (fun w' => w'.cell? ⟨gX, 2, none⟩ = some (.int .i64 x.f2)) (first | go_keep | exact (cells3 BX4.out).2.2 | exact (cells3 BX5.out).2.2 | exact (cells3 BX6.out).2.2)
                    (first
                      | (go_at_call 109; refine (HA.out _ ?_).mono ?_; (exact GG.below (below_drew BB.out) HG4.out); rintro e w4 ⟨rfl, hb4⟩; have BX4 := Lib.hid (blk_below (blk_drew BX.out) hb4); have BD4 := Lib.hid (bldF_below (W := w3.drew) BD.out hb4); have BB4 := Lib.hid (below_then (below_drew BB.out) (below_size (below_drew BB.out)) hb4); clear hb4)
                      | (go_at_call 109; refine (HP.out _ ?_).mono ?_; (exact GG.below BB4.out HG4.out); rintro e w5 ⟨rfl, hb5⟩; have BX5 := Lib.hid (blk_below BX4.out hb5); have BD5 := Lib.hid (bldF_below BD4.out hb5); have BB5 := Lib.hid (below_then BB4.out (below_size BB4.out) hb5); clear hb5)
                      | (go_at_call 108; refine (bld_write gB acc (textHead sa' sd) _ BD5.out HO.out).mono ?_; rintro e w6 ⟨rfl, bd6, hb6, hk6⟩; have BX6 := Lib.hid (keep_box BD5.out hk6 BX5.out (by decide) (by decide)); have BD6 := Lib.hid bd6; have BB6 := Lib.hid (BB5.out.trans (below_lower hb6 (Nat.le_of_lt GB.out))); clear bd6 hb6 hk6))
                  go_wp2
                  go_meet
                  case rel => exact ⟨BD6, BX6, BB6⟩
                case rest =>
                  clear BX BD BB HA HP HO
                  obtain ⟨BD, BX, BB⟩ := hcut
                  obtain ⟨zx0, zx1, zx2⟩ := cells3 BX.out
                  go_wp2
                  clear zx0 zx1 zx2
                  go_loopg [50] x.f0.length (fun g v wc => ∃ (j : Int) (acc' : ByteArray), v = .int .i64 j ∧ 0 ≤ j ∧ j ≤ (x.f0.length : Int) ∧ g = ((x.f0.length : Int) - j).toNat ∧ Hid (textIns k x.f1 (x.f0.drop j.toNat) acc' = some acc2) ∧ Hid (BdK gB acc' wc) ∧ Hid (wc.heap[gX]? = some (.cells #[.slice A0 x.f0.length c0, .slice A1 x.f1.length c1, .int .i64 x.f2] 57 (0, 0))) ∧ Hid (Below w.heap.size w wc))
                  case atStart => exact ⟨0, _, rfl, by omega, by omega, by omega, HI, BD, BX, BB⟩
                  case round =>
                    clear BD BX BB HI
                    obtain ⟨j, acc', rfl, hj0, hj1, rfl, HI, BD, BX, BB⟩ := hrel
                    by_cases hjt : j < (x.f0.length : Int)
                    · obtain ⟨ad2, A2, c2, e4, hy0, hy1, hy2, hy3, hy4, hyl, hyr⟩ := at_T55 xI.out j hj0 hjt
                      cases e4
                      have hI := HI.out
                      rw [drop_S55 x.f0 j hj0 hjt] at hI
                      generalize hye : rd_T55 x.f0 j = y at hy0 hy1 hy2 hy3 hy4 hyl hyr hI
                      clear hye HI
                      unfold textIns at hI
                      obtain ⟨s, hs, hI⟩ := Option.bind_eq_some_iff.mp hI
                      by_cases hmx : acc'.size + s.size ≤ txtMax
                      · rw [if_pos hmx] at hI
                        have HI := Lib.hid hI
                        have HO := Lib.hid (show acc'.size + s.size ≤ 140737488355328 from hmx)
                        have HLN := Lib.hid (fun w1 h1 h2 h3 => vcode_Ins_line.calls k y.f0 y.f1 A2 c2 y.f2 y.f3 y.f4 A1 c1 x.f1 s w1 h1 hyl h2 xl1.out h3 hs)
                        have yR := Lib.hid hyr
                        have hy0 := (BB.out.cell (World.block_lt_of_cell? w _ hy0)).trans hy0
                        have hy1 := (BB.out.cell (World.block_lt_of_cell? w _ hy1)).trans hy1
                        have hy2 := (BB.out.cell (World.block_lt_of_cell? w _ hy2)).trans hy2
                        have hy3 := (BB.out.cell (World.block_lt_of_cell? w _ hy3)).trans hy3
                        have hy4 := (BB.out.cell (World.block_lt_of_cell? w _ hy4)).trans hy4
                        clear hI hmx hyl hyr hs
                        have bN := Lib.hid (below_alloc BB.out (.cells #[.int .u8 y.f0, .int .i64 y.f1, .slice A2 y.f2.length c2, .int .i64 y.f3, .int .u32 y.f4] 55 (0, 0)))
                        have bD := Lib.hid (bldF_below BD.out (below_alloc (Below.refl wr.heap.size wr) (.cells #[.int .u8 y.f0, .int .i64 y.f1, .slice A2 y.f2.length c2, .int .i64 y.f3, .int .u32 y.f4] 55 (0, 0))))
                        have bX := Lib.hid (blk_alloc BX.out (.cells #[.int .u8 y.f0, .int .i64 y.f1, .slice A2 y.f2.length c2, .int .i64 y.f3, .int .u32 y.f4] 55 (0, 0)))
                        obtain ⟨za0, za1, za2⟩ := cells3 bX.out
                        obtain ⟨zy0, zy1, zy2, zy3, zy4⟩ := cells5 (blk_new wr (.cells #[.int .u8 y.f0, .int .i64 y.f1, .slice A2 y.f2.length c2, .int .i64 y.f3, .int .u32 y.f4] 55 (0, 0)))
                        have q2 := eq_true hj0
                        have q3 := eq_true hjt
                        have hltb : decide (j < (x.f0.length : Int)) = true := decide_eq_true hjt
                        go_wp2_with (first | (go_at_call 110; refine (HLN.out _ (Kd.C_below yR.out bN.out) (Kd.C_below xN.out bN.out) (GG.below bN.out HG4.out)).mono ?_; rintro e w4 ⟨rfl, hb4⟩; have BX4 := Lib.hid (blk_below bX.out hb4); have BD4 := Lib.hid (bldF_below bD.out hb4); have BB4 := Lib.hid (below_then bN.out (below_size bN.out) hb4); clear hb4) | (go_at_call 108; refine (bld_write gB acc' s _ BD4.out HO.out).mono ?_; rintro e w6 ⟨rfl, bd6, hb6, hk6⟩; have BX6 := Lib.hid (keep_box BD4.out hk6 BX4.out (by decide) (by decide)); have BD6 := Lib.hid bd6; have BB6 := Lib.hid (BB4.out.trans (below_lower hb6 (Nat.le_of_lt GB.out))); clear bd6 hb6 hk6))
                        go_roundg ((x.f0.length : Int) - (j + 1)).toNat
                        case measure => omega
                        case rel => exact ⟨j + 1, acc' ++ s, by first | rfl | go_num, by omega, by omega, rfl, HI, BD6, BX6, BB6⟩
                      · rw [if_neg hmx] at hI
                        cases hI
                    · have hje : j = (x.f0.length : Int) := by omega
                      have hacc : acc' = acc2 := by
                        have hI := HI.out
                        rw [hje, List.drop_eq_nil_of_le (by omega)] at hI
                        exact Option.some.inj hI
                      subst hacc
                      have hltb : decide (j < (x.f0.length : Int)) = false := decide_eq_false hjt
                      clear hje HI hjt
                      have hT := HT.out
                      by_cases hbig : 65536 < acc'.size
                      · rw [if_pos hbig] at hT
                        obtain rfl := Option.some.inj hT
                        have hH := HH.out
                        have hH : some ((⟨#[]⟩ : ByteArray), some 2) = some (r1, r2) := hH
                        obtain ⟨rfl, rfl⟩ := Prod.mk.inj (Option.some.inj hH)
                        clear hH hT HT HH
                        have hbb : decide ((65536 : Int) < (acc'.size : Int)) = true := decide_eq_true (by omega)
                        go_wp2_with (first | (go_at_call 111; refine (bld_len gB acc' _ BD.out).mono ?_; rintro e w5 ⟨rfl, rfl⟩))
                        go_ret2
                        exact ⟨rfl, BB.out⟩
                      · rw [if_neg hbig] at hT
                        have HT2 := Lib.hid hT
                        clear hT HT
                        have hbb : decide ((65536 : Int) < (acc'.size : Int)) = false := decide_eq_false (by omega)
                        go_wp2_with (first | (go_at_call 111; refine (bld_len gB acc' _ BD.out).mono ?_; rintro e w5 ⟨rfl, rfl⟩))
                        go_roundg ((l0_3.length : Int) - (i + 1)).toNat
                        case measure => omega
                        case rel => exact ⟨i + 1, acc', by first | rfl | go_num, by omega, by omega, rfl, HT2, BD, BB⟩
              · rw [if_neg hmx] at hT
                cases hT
            · have hie : i = (l0_3.length : Int) := by omega
              have hL := HT.out
              rw [hie, List.drop_eq_nil_of_le (by omega)] at hL
              obtain rfl := Option.some.inj hL
              have hH := HH.out
              have hH : some (acc, (none : Option Int)) = some (r1, r2) := hH
              obtain ⟨rfl, rfl⟩ := Prod.mk.inj (Option.some.inj hH)
              have hltb : decide (i < (l0_3.length : Int)) = false := decide_eq_false hlt
              clear hie hL hH HH HT hlt
              go_wp2_with (first | (go_at_call 112; refine (bld_string gB acc _ BD.out).mono ?_; rintro e w5 ⟨rfl, hb5⟩; have BB5 := Lib.hid (BB.out.trans (below_lower hb5 (Nat.le_of_lt GB.out))); clear hb5))
              go_ret2
              exact ⟨rfl, BB5.out⟩
    · rw [if_neg hmx] at h
      cases h
end Go.Proofs.YthgkeehpoilgaaaDoor.Hv

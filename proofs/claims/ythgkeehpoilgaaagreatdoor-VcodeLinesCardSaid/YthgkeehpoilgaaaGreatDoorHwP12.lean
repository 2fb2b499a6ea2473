import Derived.Outline
import Derived.Lib.Hide
import Derived.LoopTactic
import Derived.Deep.LoopGhost
import Derived.Deep.QuietTactic
import Derived.Deep.RegionHeld3
import Derived.BigQuiet
import Derived.Test.YthgkeehpoilgaaaGreatDoorProg
import Derived.Test.YthgkeehpoilgaaaGreatDoorHwP2
import Derived.Test.YthgkeehpoilgaaaGreatDoorHwP8
import Derived.Test.YthgkeehpoilgaaaGreatDoorHwP10
import Derived.Test.YthgkeehpoilgaaaGreatDoorHwP11
section
namespace Go.Proofs.YthgkeehpoilgaaaGreatDoor.Hw
open Go.RowKit Go.Proofs.YthgkeehpoilgaaaGreatDoorW.PrintWords Go.Proofs.YthgkeehpoilgaaaGreatDoorW.PrintLast Go.Proofs.YthgkeehpoilgaaaGreatDoorW.PrintMore
attribute [local go_sem] max2_int min2_int max_two min_two max_three min_three max_four min_four
set_option linter.unusedVariables false
set_option linter.unusedSimpArgs false
def txtMax : Nat := 140737488355328
def textIns (k : Nat) (nxt : List Int) : List S84 → ByteArray → Option ByteArray
  | [], acc => some acc
  | x :: r, acc => (vcode_Ins_line.f k x.f0 x.f1 x.f2 x.f3 x.f4 nxt).bind fun s => if acc.size + s.size ≤ txtMax then textIns k nxt r (acc ++ s) else none
def textHead (a d : ByteArray) : ByteArray := (((((⟨#[98, 108, 111, 99, 107, 32]⟩ : ByteArray) ++ a) ++ (⟨#[32, 100, 101, 112, 116, 104, 32]⟩ : ByteArray)) ++ d) ++ (⟨#[10]⟩ : ByteArray))
def textBlocks (k : Nat) : List S87 → Int → ByteArray → Option (Option ByteArray)
  | [], _, acc => some (some acc)
  | x :: r, i, acc => (itoaF i).bind fun a => (itoaF x.f2).bind fun d => if acc.size + (textHead a d).size ≤ txtMax then
      ((textIns k x.f1 x.f0 (acc ++ textHead a d)).bind fun acc2 => if 65536 < acc2.size then some none else textBlocks k r (i + 1) acc2) else none
def textOne (a p : ByteArray) : ByteArray := ((((⟨#[114, 101, 103, 115, 32]⟩ : ByteArray) ++ a) ++ (⟨#[32, 112, 97, 114, 97, 109, 115, 32]⟩ : ByteArray)) ++ p)
def textFirst (a p : ByteArray) (result : Bool) : ByteArray := if result = true then ((⟨#[]⟩ ++ textOne a p) ++ (⟨#[32, 114, 101, 115, 117, 108, 116]⟩ : ByteArray)) else (⟨#[]⟩ ++ textOne a p)
def vcode_Text.f (k : Nat) (params regs : Int) (result : Bool) (blocks : List S87) : Option (ByteArray × Option Int) :=
  (vcode_Check.f k params regs result blocks).bind fun e => match e with
    | some n => some ((⟨#[]⟩ : ByteArray), some n)
    | none => (itoaF regs).bind fun a => (itoaF params).bind fun p => if (textFirst a p result).size + 1 ≤ txtMax then
      ((textBlocks k blocks 0 (textFirst a p result ++ (⟨#[10]⟩ : ByteArray))).bind fun t => match t with
        | none => some ((⟨#[]⟩ : ByteArray), some 2)
        | some b => some (b, none)) else none
theorem one_blk {w w1 : World} {C : Obj} (hb : Below (w.alloc C).heap.size (w.alloc C) w1) : w1.heap[w.heap.size]? = some C ∧ Below w.heap.size w w1 := by
  refine ⟨blk_below (blk_new w C) hb, ?_⟩
  exact below_then (below_alloc (Below.refl w.heap.size w) C) (below_size (below_alloc (Below.refl w.heap.size w) C)) hb
abbrev BdK (b : Nat) (acc : ByteArray) (w : World) : Prop := Lib.IsBuilderF 113 5 b b (Lib.strCells acc) w
theorem bdK_new (w : World) : BdK w.heap.size ⟨#[]⟩ (w.alloc (.cells #[.pointer none, .slice none 0 0] 113 (0, 0))) := Lib.IsBuilderF.of (Lib.fresh_isBuilder _ _ w)
theorem drop_Ins (l : List S84) (i : Int) (h0 : 0 ≤ i) (h1 : i < (l.length : Int)) : l.drop i.toNat = rd_T84 l i :: l.drop (i + 1).toNat := by
  have hn : i.toNat < l.length := by omega
  rw [List.drop_eq_getElem_cons hn, show (i + 1).toNat = i.toNat + 1 by omega]
  simp [rd_T84, List.getD_eq_getElem?_getD, List.getElem?_eq_getElem hn]
theorem drop_Block (l : List S87) (i : Int) (h0 : 0 ≤ i) (h1 : i < (l.length : Int)) : l.drop i.toNat = rd_T87 l i :: l.drop (i + 1).toNat := by
  have hn : i.toNat < l.length := by omega
  rw [List.drop_eq_getElem_cons hn, show (i + 1).toNat = i.toNat + 1 by omega]
  simp [rd_T87, List.getD_eq_getElem?_getD, List.getElem?_eq_getElem hn]
set_option maxHeartbeats 8000000 in
set_option maxRecDepth 100000 in
theorem vcode_Text.calls (k : Nat) (a0_0 : Int) (a0_1 : Int) (a0_2 : Bool) (A0_3 : Option Addr) (c0_3 : Nat) (l0_3 : List S87) (r1 : ByteArray) (r2 : Option Int) (w : World)
    (hr0_3 : Kd.C k87 w A0_3 l0_3.length l0_3) (hc0_3 : l0_3.length ≤ c0_3) (hG : GG [0, 4] w)
    (h : vcode_Text.f k a0_0 a0_1 a0_2 l0_3 = some (r1, r2)) :
    Calls Tryz.prog 18 #[.agg #[.int .i64 a0_0, .int .i64 a0_1, .bool a0_2, .slice A0_3 l0_3.length c0_3]] w fun e w' => e = .returned (.tuple #[.string r1, errW r2]) ∧ Below w.heap.size w w' := by
  have hlen := hr0_3.2.1
  unfold vcode_Text.f at h
  obtain ⟨e, he, h⟩ := Option.bind_eq_some_iff.mp h
  have HR := Lib.hid hr0_3
  have HCK := Lib.hid (fun w1 h1 h2 => vcode_Check.calls k a0_0 a0_1 a0_2 A0_3 c0_3 l0_3 e w1 h1 hc0_3 h2 he)
  have HG0 := Lib.hid (GG.sub hG (t := [0]) (by simp))
  have HG4 := Lib.hid (GG.sub hG (t := [4]) (by simp))
  clear he hr0_3 hG
  have hb0 := below_alloc (Below.refl w.heap.size w) (.cells #[.int .i64 a0_0, .int .i64 a0_1, .bool a0_2, .slice A0_3 l0_3.length c0_3] 35 (0, 0))
  have HB0 := Lib.hid hb0
  clear hb0
  cases e with
  | some n =>
    have h : some ((⟨#[]⟩ : ByteArray), some n) = some (r1, r2) := h
    obtain ⟨rfl, rfl⟩ := Prod.mk.inj (Option.some.inj h)
    clear h
    have HCK : Hid (∀ w1, Kd.C k87 w1 A0_3 l0_3.length l0_3 → GG [0] w1 → Calls Tryz.prog 32 #[.agg #[.int .i64 a0_0, .int .i64 a0_1, .bool a0_2, .slice A0_3 l0_3.length c0_3]] w1 fun e w' => e = .returned (.iface 104 (.int .i64 n)) ∧ Below w1.heap.size w1 w') := Lib.hid (fun w1 h1 h2 => HCK.out w1 h1 h2)
    go_enter Tryz.func18, Tryz.ntmps18
    go_wp2_with (first | (go_at_call 32; refine (HCK.out _ (Kd.C_below HR.out HB0.out) (GG.below HB0.out HG0.out)).mono ?_; rintro e w1 ⟨rfl, hb⟩))
    go_ret2
    exact ⟨rfl, (one_blk hb).2⟩
  | none =>
    have HCK : Hid (∀ w1, Kd.C k87 w1 A0_3 l0_3.length l0_3 → GG [0] w1 → Calls Tryz.prog 32 #[.agg #[.int .i64 a0_0, .int .i64 a0_1, .bool a0_2, .slice A0_3 l0_3.length c0_3]] w1 fun e w' => e = .returned .nilIface ∧ Below w1.heap.size w1 w') := Lib.hid (fun w1 h1 h2 => HCK.out w1 h1 h2)
    obtain ⟨sa, hsa, h⟩ := Option.bind_eq_some_iff.mp h
    obtain ⟨sp, hsp, h⟩ := Option.bind_eq_some_iff.mp h
    by_cases hmx : (textFirst sa sp a0_2).size + 1 ≤ txtMax
    · rw [if_pos hmx] at h
      obtain ⟨t, ht, h⟩ := Option.bind_eq_some_iff.mp h
      have HA := Lib.hid (fun w1 h1 => strconv_Itoa.calls a0_1 sa w1 h1 hsa)
      have HP := Lib.hid (fun w1 h1 => strconv_Itoa.calls a0_0 sp w1 h1 hsp)
      have HT := Lib.hid ht
      have HH := Lib.hid h
      clear hsa hsp ht h
      have hmx2 : (textFirst sa sp a0_2).size + (⟨#[10]⟩ : ByteArray).size ≤ 140737488355328 := hmx
      have ho1 : (⟨#[]⟩ : ByteArray).size + (textOne sa sp).size ≤ 140737488355328 := by
        have h1 := hmx2
        unfold textFirst at h1
        split at h1 <;> simp only [ByteArray.size_append] at h1 ⊢ <;> omega
      have ho2 : a0_2 = true → (⟨#[]⟩ ++ textOne sa sp : ByteArray).size + (⟨#[32, 114, 101, 115, 117, 108, 116]⟩ : ByteArray).size ≤ 140737488355328 := by
        intro hr
        have h1 := hmx2
        unfold textFirst at h1
        rw [if_pos hr] at h1
        simp only [ByteArray.size_append] at h1 ⊢
        omega
      have HO1 := Lib.hid ho1
      have HO2 := Lib.hid ho2
      have HO3 := Lib.hid hmx2
      clear hmx hmx2 ho1 ho2
      go_enter Tryz.func18, Tryz.ntmps18
      go_upto_region 5 with (first | (go_at_call 32; refine (HCK.out _ (Kd.C_below HR.out HB0.out) (GG.below HB0.out HG0.out)).mono ?_; rintro e w1 ⟨rfl, hb⟩))
      (try simp only [Act.put, List.setIfInBounds_toArray, List.set_cons_zero, List.set_cons_succ])
      obtain ⟨bC, bB⟩ := one_blk hb
      clear hb HCK
      have hgb : w.heap.size < w1.heap.size := blk_lt bC
      have bD := bdK_new w1
      have bC := blk_alloc bC (.cells #[.pointer none, .slice none 0 0] 113 (0, 0))
      have bB := below_alloc bB (.cells #[.pointer none, .slice none 0 0] 113 (0, 0))
      revert bC bD bB
      generalize w1.alloc (.cells #[.pointer none, .slice none 0 0] 113 (0, 0)) = w2
      revert hgb
      generalize w1.heap.size = gB
      intro hgb bD bC bB
      have BC := Lib.hid bC
      have BD := Lib.hid bD
      have BB := Lib.hid bB
      have GB := Lib.hid hgb
      clear bC bD bB hgb
      go_cut [] (fun wc => Hid (BdK gB (⟨#[]⟩ ++ textOne sa sp) wc) ∧ Hid (wc.heap[w.heap.size]? = some (.cells #[.int .i64 a0_0, .int .i64 a0_1, .bool a0_2, .slice A0_3 l0_3.length c0_3] 35 (0, 0))) ∧ Hid (Below w.heap.size w wc))
      case first =>
        obtain ⟨zc0, zc1, zc2, zc3⟩ := cells4 BC.out
        have j0 : 5 + sa.size ≤ 9223372036854775807 := by first | exact Nat.le_trans (by simp only [textOne, textHead, ByteArray.size_append, show (⟨#[]⟩ : ByteArray).size = 0 from rfl, show (⟨#[114, 101, 103, 115, 32]⟩ : ByteArray).size = 5 from rfl, show (⟨#[32, 112, 97, 114, 97, 109, 115, 32]⟩ : ByteArray).size = 8 from rfl, show (⟨#[98, 108, 111, 99, 107, 32]⟩ : ByteArray).size = 6 from rfl, show (⟨#[32, 100, 101, 112, 116, 104, 32]⟩ : ByteArray).size = 7 from rfl, show (⟨#[10]⟩ : ByteArray).size = 1 from rfl]; omega) (Nat.le_trans HO1.out (by decide))
        have j0a := eq_true j0; have j0b := eq_false (Nat.not_lt.2 j0); have j0c := decide_eq_true j0
        have j1 : 5 + sa.size + 8 ≤ 9223372036854775807 := by first | exact Nat.le_trans (by simp only [textOne, textHead, ByteArray.size_append, show (⟨#[]⟩ : ByteArray).size = 0 from rfl, show (⟨#[114, 101, 103, 115, 32]⟩ : ByteArray).size = 5 from rfl, show (⟨#[32, 112, 97, 114, 97, 109, 115, 32]⟩ : ByteArray).size = 8 from rfl, show (⟨#[98, 108, 111, 99, 107, 32]⟩ : ByteArray).size = 6 from rfl, show (⟨#[32, 100, 101, 112, 116, 104, 32]⟩ : ByteArray).size = 7 from rfl, show (⟨#[10]⟩ : ByteArray).size = 1 from rfl]; omega) (Nat.le_trans HO1.out (by decide))
        have j1a := eq_true j1; have j1b := eq_false (Nat.not_lt.2 j1); have j1c := decide_eq_true j1
        have j2 : 5 + sa.size + 8 + sp.size ≤ 9223372036854775807 := by first | exact Nat.le_trans (by simp only [textOne, textHead, ByteArray.size_append, show (⟨#[]⟩ : ByteArray).size = 0 from rfl, show (⟨#[114, 101, 103, 115, 32]⟩ : ByteArray).size = 5 from rfl, show (⟨#[32, 112, 97, 114, 97, 109, 115, 32]⟩ : ByteArray).size = 8 from rfl, show (⟨#[98, 108, 111, 99, 107, 32]⟩ : ByteArray).size = 6 from rfl, show (⟨#[32, 100, 101, 112, 116, 104, 32]⟩ : ByteArray).size = 7 from rfl, show (⟨#[10]⟩ : ByteArray).size = 1 from rfl]; omega) (Nat.le_trans HO1.out (by decide))
        have j2a := eq_true j2; have j2b := eq_false (Nat.not_lt.2 j2); have j2c := decide_eq_true j2
        have j3 : ((⟨#[114, 101, 103, 115, 32]⟩ : ByteArray) ++ sa).size + 8 ≤ 9223372036854775807 := by first | exact Nat.le_trans (by simp only [textOne, textHead, ByteArray.size_append, show (⟨#[]⟩ : ByteArray).size = 0 from rfl, show (⟨#[114, 101, 103, 115, 32]⟩ : ByteArray).size = 5 from rfl, show (⟨#[32, 112, 97, 114, 97, 109, 115, 32]⟩ : ByteArray).size = 8 from rfl, show (⟨#[98, 108, 111, 99, 107, 32]⟩ : ByteArray).size = 6 from rfl, show (⟨#[32, 100, 101, 112, 116, 104, 32]⟩ : ByteArray).size = 7 from rfl, show (⟨#[10]⟩ : ByteArray).size = 1 from rfl]; omega) (Nat.le_trans HO1.out (by decide))
        have j3a := eq_true j3; have j3b := eq_false (Nat.not_lt.2 j3); have j3c := decide_eq_true j3
        have j4 : ((⟨#[114, 101, 103, 115, 32]⟩ : ByteArray) ++ sa ++ (⟨#[32, 112, 97, 114, 97, 109, 115, 32]⟩ : ByteArray)).size + sp.size ≤ 9223372036854775807 := by first | exact Nat.le_trans (by simp only [textOne, textHead, ByteArray.size_append, show (⟨#[]⟩ : ByteArray).size = 0 from rfl, show (⟨#[114, 101, 103, 115, 32]⟩ : ByteArray).size = 5 from rfl, show (⟨#[32, 112, 97, 114, 97, 109, 115, 32]⟩ : ByteArray).size = 8 from rfl, show (⟨#[98, 108, 111, 99, 107, 32]⟩ : ByteArray).size = 6 from rfl, show (⟨#[32, 100, 101, 112, 116, 104, 32]⟩ : ByteArray).size = 7 from rfl, show (⟨#[10]⟩ : ByteArray).size = 1 from rfl]; omega) (Nat.le_trans HO1.out (by decide))
        have j4a := eq_true j4; have j4b := eq_false (Nat.not_lt.2 j4); have j4c := decide_eq_true j4
        go_region_held3 (fun w' => w'.cell? ⟨w.heap.size, 0, none⟩ = some (.int .i64 a0_0) ∧ w'.cell? ⟨w.heap.size, 1, none⟩ = some (.int .i64 a0_1)) (first | go_keep | exact ⟨(cells4 BC4.out).1, (cells4 BC4.out).2.1⟩ | exact ⟨(cells4 BC5.out).1, (cells4 BC5.out).2.1⟩ | exact ⟨(cells4 BC6.out).1, (cells4 BC6.out).2.1⟩)
          (first
            | (go_at_call 43; refine (HA.out _ ?_).mono ?_; (exact GG.below (below_drew BB.out) HG4.out); rintro e w4 ⟨rfl, hb4⟩; have BC4 := Lib.hid (blk_below (blk_drew BC.out) hb4); have BD4 := Lib.hid (bldF_below (W := w2.drew) BD.out hb4); have BB4 := Lib.hid (below_then (below_drew BB.out) (below_size (below_drew BB.out)) hb4); clear hb4)
            | (go_at_call 43; refine (HP.out _ ?_).mono ?_; (exact GG.below BB4.out HG4.out); rintro e w5 ⟨rfl, hb5⟩; have BC5 := Lib.hid (blk_below BC4.out hb5); have BD5 := Lib.hid (bldF_below BD4.out hb5); have BB5 := Lib.hid (below_then BB4.out (below_size BB4.out) hb5); clear hb5)
            | (go_at_call 42; refine (bld_write gB ⟨#[]⟩ (textOne sa sp) _ BD5.out HO1.out).mono ?_; rintro e w6 ⟨rfl, bd6, hb6, hk6⟩; have BC6 := Lib.hid (keep_box BD5.out hk6 BC5.out (by decide) (by decide)); have BD6 := Lib.hid bd6; have BB6 := Lib.hid (BB5.out.trans (below_lower hb6 (Nat.le_of_lt GB.out))); clear bd6 hb6 hk6))
        go_wp2
        go_meet
        case rel => exact ⟨BD6, BC6, BB6⟩
      case rest =>
        clear BC BD BB HA HP
        obtain ⟨BD, BC, BB⟩ := hcut
        obtain ⟨zc0, zc1, zc2, zc3⟩ := cells4 BC.out
        go_upto_if 26 with (first | fail)
        (try simp only [Act.put, List.setIfInBounds_toArray, List.set_cons_zero, List.set_cons_succ])
        clear zc0 zc1 zc2 zc3
        go_cut [] (fun wc => Hid (BdK gB (textFirst sa sp a0_2) wc) ∧ Hid (wc.heap[w.heap.size]? = some (.cells #[.int .i64 a0_0, .int .i64 a0_1, .bool a0_2, .slice A0_3 l0_3.length c0_3] 35 (0, 0))) ∧ Hid (Below w.heap.size w wc))
        case first =>
          cases a0_2 with
          | true =>
            go_wp2_with (first | (go_at_call 42; refine (bld_write gB (⟨#[]⟩ ++ textOne sa sp) ⟨#[32, 114, 101, 115, 117, 108, 116]⟩ _ BD.out (HO2.out rfl)).mono ?_; rintro e w6 ⟨rfl, bd6, hb6, hk6⟩; have BC6 := Lib.hid (keep_box BD.out hk6 BC.out (by decide) (by decide)); have BD6 := Lib.hid bd6; have BB6 := Lib.hid (BB.out.trans (below_lower hb6 (Nat.le_of_lt GB.out))); clear bd6 hb6 hk6))
            go_meet
            case rel => exact ⟨Lib.hid (by unfold textFirst; rw [if_pos rfl]; exact BD6.out), BC6, BB6⟩
          | false =>
            go_wp2
            go_meet
            case rel => exact ⟨Lib.hid (by unfold textFirst; rw [if_neg (by decide)]; exact BD.out), BC, BB⟩
        case rest =>
          clear BC BD BB HO1 HO2
          obtain ⟨BD, BC, BB⟩ := hcut
          go_upto_region 9 with (first | (go_at_call 42; refine (bld_write gB (textFirst sa sp a0_2) ⟨#[10]⟩ _ BD.out HO3.out).mono ?_; rintro e w6 ⟨rfl, bd6, hb6, hk6⟩; have BC6 := Lib.hid (keep_box BD.out hk6 BC.out (by decide) (by decide)); have BD6 := Lib.hid bd6; have BB6 := Lib.hid (BB.out.trans (below_lower hb6 (Nat.le_of_lt GB.out))); clear bd6 hb6 hk6))
          clear BD BC BB HO3
          obtain ⟨zc0, zc1, zc2, zc3⟩ := cells4 BC6.out
          go_wp2
          clear zc0 zc1 zc2 zc3 BC6
          go_loopg [32] l0_3.length (fun g v wc => ∃ (i : Int) (acc : ByteArray), v = .int .i64 i ∧ 0 ≤ i ∧ i ≤ (l0_3.length : Int) ∧ g = ((l0_3.length : Int) - i).toNat ∧ Hid (textBlocks k (l0_3.drop i.toNat) i acc = some t) ∧ Hid (BdK gB acc wc) ∧ Hid (Below w.heap.size w wc))
          case atStart => exact ⟨0, _, rfl, by omega, by omega, by omega, HT, BD6, BB6⟩
          case round =>
            clear BD6 BB6 HT
            obtain ⟨i, acc, rfl, hi0, hi1, rfl, HT, BD, BB⟩ := hrel
            by_cases hlt : i < (l0_3.length : Int)
            · obtain ⟨ad, A0, c0, A1, c1, e3, hx0, hx1, hx2, hl0, hrI, hl1, hrN⟩ := at_T87 HR.out i hi0 hlt
              cases e3
              have hT := HT.out
              rw [drop_Block l0_3 i hi0 hlt] at hT
              generalize hxe : rd_T87 l0_3 i = x at hx0 hx1 hx2 hl0 hrI hl1 hrN hT
              clear hxe HT
              unfold textBlocks at hT
              obtain ⟨sa', hsa, hT⟩ := Option.bind_eq_some_iff.mp hT
              obtain ⟨sd, hsd, hT⟩ := Option.bind_eq_some_iff.mp hT
              by_cases hmx : acc.size + (textHead sa' sd).size ≤ txtMax
              · rw [if_pos hmx] at hT
                obtain ⟨acc2, hins, hT⟩ := Option.bind_eq_some_iff.mp hT
                have HA := Lib.hid (fun w1 h1 => strconv_Itoa.calls i sa' w1 h1 hsa)
                have HP := Lib.hid (fun w1 h1 => strconv_Itoa.calls x.f2 sd w1 h1 hsd)
                have HO := Lib.hid (show acc.size + (textHead sa' sd).size ≤ 140737488355328 from hmx)
                have HI := Lib.hid hins
                have HT := Lib.hid hT
                have xI := Lib.hid hrI
                have xN := Lib.hid hrN
                have xlI := hrI.2.1
                have xl1 := Lib.hid hl1
                have hx0 := (BB.out.cell (World.block_lt_of_cell? w _ hx0)).trans hx0
                have hx1 := (BB.out.cell (World.block_lt_of_cell? w _ hx1)).trans hx1
                have hx2 := (BB.out.cell (World.block_lt_of_cell? w _ hx2)).trans hx2
                clear hsa hsd hmx hins hT hrI hrN hl0 hl1
                have q2 := eq_true hi0
                have q3 := eq_true hlt
                have hltb : decide (i < (l0_3.length : Int)) = true := decide_eq_true hlt
                go_upto_region 12 with (first | fail)
                (try simp only [Act.put, List.setIfInBounds_toArray, List.set_cons_zero, List.set_cons_succ])
                clear hx0 hx1 hx2 q2 q3 hltb
                have bX := blk_new wr (.cells #[.slice A0 x.f0.length c0, .slice A1 x.f1.length c1, .int .i64 x.f2] 87 (0, 0))
                have bD := bldF_below BD.out (below_alloc (Below.refl wr.heap.size wr) (.cells #[.slice A0 x.f0.length c0, .slice A1 x.f1.length c1, .int .i64 x.f2] 87 (0, 0)))
                have bB := below_alloc BB.out (.cells #[.slice A0 x.f0.length c0, .slice A1 x.f1.length c1, .int .i64 x.f2] 87 (0, 0))
                revert bX bD bB
                generalize wr.alloc (.cells #[.slice A0 x.f0.length c0, .slice A1 x.f1.length c1, .int .i64 x.f2] 87 (0, 0)) = w3
                generalize wr.heap.size = gX
                intro bX bD bB
                clear BD BB
                have BX := Lib.hid bX
                have BD := Lib.hid bD
                have BB := Lib.hid bB
                clear bX bD bB
                go_cut [] (fun wc => Hid (BdK gB (acc ++ textHead sa' sd) wc) ∧ Hid (wc.heap[gX]? = some (.cells #[.slice A0 x.f0.length c0, .slice A1 x.f1.length c1, .int .i64 x.f2] 87 (0, 0))) ∧ Hid (Below w.heap.size w wc))
                case first =>
                  obtain ⟨zx0, zx1, zx2⟩ := cells3 BX.out
                  have j0 : 6 + sa'.size ≤ 9223372036854775807 := by first | exact Nat.le_trans (by simp only [textOne, textHead, ByteArray.size_append, show (⟨#[]⟩ : ByteArray).size = 0 from rfl, show (⟨#[114, 101, 103, 115, 32]⟩ : ByteArray).size = 5 from rfl, show (⟨#[32, 112, 97, 114, 97, 109, 115, 32]⟩ : ByteArray).size = 8 from rfl, show (⟨#[98, 108, 111, 99, 107, 32]⟩ : ByteArray).size = 6 from rfl, show (⟨#[32, 100, 101, 112, 116, 104, 32]⟩ : ByteArray).size = 7 from rfl, show (⟨#[10]⟩ : ByteArray).size = 1 from rfl]; omega) (Nat.le_trans HO.out (by decide))
                  have j0a := eq_true j0; have j0b := eq_false (Nat.not_lt.2 j0); have j0c := decide_eq_true j0
                  have j1 : 6 + sa'.size + 7 ≤ 9223372036854775807 := by first | exact Nat.le_trans (by simp only [textOne, textHead, ByteArray.size_append, show (⟨#[]⟩ : ByteArray).size = 0 from rfl, show (⟨#[114, 101, 103, 115, 32]⟩ : ByteArray).size = 5 from rfl, show (⟨#[32, 112, 97, 114, 97, 109, 115, 32]⟩ : ByteArray).size = 8 from rfl, show (⟨#[98, 108, 111, 99, 107, 32]⟩ : ByteArray).size = 6 from rfl, show (⟨#[32, 100, 101, 112, 116, 104, 32]⟩ : ByteArray).size = 7 from rfl, show (⟨#[10]⟩ : ByteArray).size = 1 from rfl]; omega) (Nat.le_trans HO.out (by decide))
                  have j1a := eq_true j1; have j1b := eq_false (Nat.not_lt.2 j1); have j1c := decide_eq_true j1
                  have j2 : 6 + sa'.size + 7 + sd.size ≤ 9223372036854775807 := by first | exact Nat.le_trans (by simp only [textOne, textHead, ByteArray.size_append, show (⟨#[]⟩ : ByteArray).size = 0 from rfl, show (⟨#[114, 101, 103, 115, 32]⟩ : ByteArray).size = 5 from rfl, show (⟨#[32, 112, 97, 114, 97, 109, 115, 32]⟩ : ByteArray).size = 8 from rfl, show (⟨#[98, 108, 111, 99, 107, 32]⟩ : ByteArray).size = 6 from rfl, show (⟨#[32, 100, 101, 112, 116, 104, 32]⟩ : ByteArray).size = 7 from rfl, show (⟨#[10]⟩ : ByteArray).size = 1 from rfl]; omega) (Nat.le_trans HO.out (by decide))
                  have j2a := eq_true j2; have j2b := eq_false (Nat.not_lt.2 j2); have j2c := decide_eq_true j2
                  have j3 : 6 + sa'.size + 7 + sd.size + 1 ≤ 9223372036854775807 := by first | exact Nat.le_trans (by simp only [textOne, textHead, ByteArray.size_append, show (⟨#[]⟩ : ByteArray).size = 0 from rfl, show (⟨#[114, 101, 103, 115, 32]⟩ : ByteArray).size = 5 from rfl, show (⟨#[32, 112, 97, 114, 97, 109, 115, 32]⟩ : ByteArray).size = 8 from rfl, show (⟨#[98, 108, 111, 99, 107, 32]⟩ : ByteArray).size = 6 from rfl, show (⟨#[32, 100, 101, 112, 116, 104, 32]⟩ : ByteArray).size = 7 from rfl, show (⟨#[10]⟩ : ByteArray).size = 1 from rfl]; omega) (Nat.le_trans HO.out (by decide))
                  have j3a := eq_true j3; have j3b := eq_false (Nat.not_lt.2 j3); have j3c := decide_eq_true j3
                  have j4 : ((⟨#[98, 108, 111, 99, 107, 32]⟩ : ByteArray) ++ sa').size + 7 ≤ 9223372036854775807 := by first | exact Nat.le_trans (by simp only [textOne, textHead, ByteArray.size_append, show (⟨#[]⟩ : ByteArray).size = 0 from rfl, show (⟨#[114, 101, 103, 115, 32]⟩ : ByteArray).size = 5 from rfl, show (⟨#[32, 112, 97, 114, 97, 109, 115, 32]⟩ : ByteArray).size = 8 from rfl, show (⟨#[98, 108, 111, 99, 107, 32]⟩ : ByteArray).size = 6 from rfl, show (⟨#[32, 100, 101, 112, 116, 104, 32]⟩ : ByteArray).size = 7 from rfl, show (⟨#[10]⟩ : ByteArray).size = 1 from rfl]; omega) (Nat.le_trans HO.out (by decide))
                  have j4a := eq_true j4; have j4b := eq_false (Nat.not_lt.2 j4); have j4c := decide_eq_true j4
                  have j5 : ((⟨#[98, 108, 111, 99, 107, 32]⟩ : ByteArray) ++ sa' ++ (⟨#[32, 100, 101, 112, 116, 104, 32]⟩ : ByteArray)).size + sd.size ≤ 9223372036854775807 := by first | exact Nat.le_trans (by simp only [textOne, textHead, ByteArray.size_append, show (⟨#[]⟩ : ByteArray).size = 0 from rfl, show (⟨#[114, 101, 103, 115, 32]⟩ : ByteArray).size = 5 from rfl, show (⟨#[32, 112, 97, 114, 97, 109, 115, 32]⟩ : ByteArray).size = 8 from rfl, show (⟨#[98, 108, 111, 99, 107, 32]⟩ : ByteArray).size = 6 from rfl, show (⟨#[32, 100, 101, 112, 116, 104, 32]⟩ : ByteArray).size = 7 from rfl, show (⟨#[10]⟩ : ByteArray).size = 1 from rfl]; omega) (Nat.le_trans HO.out (by decide))
                  have j5a := eq_true j5; have j5b := eq_false (Nat.not_lt.2 j5); have j5c := decide_eq_true j5
                  have j6 : ((⟨#[98, 108, 111, 99, 107, 32]⟩ : ByteArray) ++ sa' ++ (⟨#[32, 100, 101, 112, 116, 104, 32]⟩ : ByteArray) ++ sd).size + 1 ≤ 9223372036854775807 := by first | exact Nat.le_trans (by simp only [textOne, textHead, ByteArray.size_append, show (⟨#[]⟩ : ByteArray).size = 0 from rfl, show (⟨#[114, 101, 103, 115, 32]⟩ : ByteArray).size = 5 from rfl, show (⟨#[32, 112, 97, 114, 97, 109, 115, 32]⟩ : ByteArray).size = 8 from rfl, show (⟨#[98, 108, 111, 99, 107, 32]⟩ : ByteArray).size = 6 from rfl, show (⟨#[32, 100, 101, 112, 116, 104, 32]⟩ : ByteArray).size = 7 from rfl, show (⟨#[10]⟩ : ByteArray).size = 1 from rfl]; omega) (Nat.le_trans HO.out (by decide))
                  have j6a := eq_true j6; have j6b := eq_false (Nat.not_lt.2 j6); have j6c := decide_eq_true j6
                  go_region_held3 (fun w' => w'.cell? ⟨gX, 2, none⟩ = some (.int .i64 x.f2)) (first | go_keep | exact (cells3 BX4.out).2.2 | exact (cells3 BX5.out).2.2 | exact (cells3 BX6.out).2.2)
                    (first
                      | (go_at_call 43; refine (HA.out _ ?_).mono ?_; (exact GG.below (below_drew BB.out) HG4.out); rintro e w4 ⟨rfl, hb4⟩; have BX4 := Lib.hid (blk_below (blk_drew BX.out) hb4); have BD4 := Lib.hid (bldF_below (W := w3.drew) BD.out hb4); have BB4 := Lib.hid (below_then (below_drew BB.out) (below_size (below_drew BB.out)) hb4); clear hb4)
                      | (go_at_call 43; refine (HP.out _ ?_).mono ?_; (exact GG.below BB4.out HG4.out); rintro e w5 ⟨rfl, hb5⟩; have BX5 := Lib.hid (blk_below BX4.out hb5); have BD5 := Lib.hid (bldF_below BD4.out hb5); have BB5 := Lib.hid (below_then BB4.out (below_size BB4.out) hb5); clear hb5)
                      | (go_at_call 42; refine (bld_write gB acc (textHead sa' sd) _ BD5.out HO.out).mono ?_; rintro e w6 ⟨rfl, bd6, hb6, hk6⟩; have BX6 := Lib.hid (keep_box BD5.out hk6 BX5.out (by decide) (by decide)); have BD6 := Lib.hid bd6; have BB6 := Lib.hid (BB5.out.trans (below_lower hb6 (Nat.le_of_lt GB.out))); clear bd6 hb6 hk6))
                  go_wp2
                  go_meet
                  case rel => exact ⟨BD6, BX6, BB6⟩
                case rest =>
                  clear BX BD BB HA HP HO
                  obtain ⟨BD, BX, BB⟩ := hcut
                  obtain ⟨zx0, zx1, zx2⟩ := cells3 BX.out
                  go_wp2
                  clear zx0 zx1 zx2
                  go_loopg [50] x.f0.length (fun g v wc => ∃ (j : Int) (acc' : ByteArray), v = .int .i64 j ∧ 0 ≤ j ∧ j ≤ (x.f0.length : Int) ∧ g = ((x.f0.length : Int) - j).toNat ∧ Hid (textIns k x.f1 (x.f0.drop j.toNat) acc' = some acc2) ∧ Hid (BdK gB acc' wc) ∧ Hid (wc.heap[gX]? = some (.cells #[.slice A0 x.f0.length c0, .slice A1 x.f1.length c1, .int .i64 x.f2] 87 (0, 0))) ∧ Hid (Below w.heap.size w wc))
                  case atStart => exact ⟨0, _, rfl, by omega, by omega, by omega, HI, BD, BX, BB⟩
                  case round =>
                    clear BD BX BB HI
                    obtain ⟨j, acc', rfl, hj0, hj1, rfl, HI, BD, BX, BB⟩ := hrel
                    by_cases hjt : j < (x.f0.length : Int)
                    · obtain ⟨ad2, A2, c2, e4, hy0, hy1, hy2, hy3, hy4, hyl, hyr⟩ := at_T84 xI.out j hj0 hjt
                      cases e4
                      have hI := HI.out
                      rw [drop_Ins x.f0 j hj0 hjt] at hI
                      generalize hye : rd_T84 x.f0 j = y at hy0 hy1 hy2 hy3 hy4 hyl hyr hI
                      clear hye HI
                      unfold textIns at hI
                      obtain ⟨s, hs, hI⟩ := Option.bind_eq_some_iff.mp hI
                      by_cases hmx : acc'.size + s.size ≤ txtMax
                      · rw [if_pos hmx] at hI
                        have HI := Lib.hid hI
                        have HO := Lib.hid (show acc'.size + s.size ≤ 140737488355328 from hmx)
                        have HLN := Lib.hid (fun w1 h1 h2 h3 => vcode_Ins_line.calls k y.f0 y.f1 A2 c2 y.f2 y.f3 y.f4 A1 c1 x.f1 s w1 h1 hyl h2 xl1.out h3 hs)
                        have yR := Lib.hid hyr
                        have hy0 := (BB.out.cell (World.block_lt_of_cell? w _ hy0)).trans hy0
                        have hy1 := (BB.out.cell (World.block_lt_of_cell? w _ hy1)).trans hy1
                        have hy2 := (BB.out.cell (World.block_lt_of_cell? w _ hy2)).trans hy2
                        have hy3 := (BB.out.cell (World.block_lt_of_cell? w _ hy3)).trans hy3
                        have hy4 := (BB.out.cell (World.block_lt_of_cell? w _ hy4)).trans hy4
                        clear hI hmx hyl hyr hs
                        have bN := Lib.hid (below_alloc BB.out (.cells #[.int .u8 y.f0, .int .i64 y.f1, .slice A2 y.f2.length c2, .int .i64 y.f3, .int .u32 y.f4] 84 (0, 0)))
                        have bD := Lib.hid (bldF_below BD.out (below_alloc (Below.refl wr.heap.size wr) (.cells #[.int .u8 y.f0, .int .i64 y.f1, .slice A2 y.f2.length c2, .int .i64 y.f3, .int .u32 y.f4] 84 (0, 0))))
                        have bX := Lib.hid (blk_alloc BX.out (.cells #[.int .u8 y.f0, .int .i64 y.f1, .slice A2 y.f2.length c2, .int .i64 y.f3, .int .u32 y.f4] 84 (0, 0)))
                        obtain ⟨za0, za1, za2⟩ := cells3 bX.out
                        obtain ⟨zy0, zy1, zy2, zy3, zy4⟩ := cells5 (blk_new wr (.cells #[.int .u8 y.f0, .int .i64 y.f1, .slice A2 y.f2.length c2, .int .i64 y.f3, .int .u32 y.f4] 84 (0, 0)))
                        have q2 := eq_true hj0
                        have q3 := eq_true hjt
                        have hltb : decide (j < (x.f0.length : Int)) = true := decide_eq_true hjt
                        go_wp2_with (first | (go_at_call 44; refine (HLN.out _ (Kd.C_below yR.out bN.out) (Kd.C_below xN.out bN.out) (GG.below bN.out HG4.out)).mono ?_; rintro e w4 ⟨rfl, hb4⟩; have BX4 := Lib.hid (blk_below bX.out hb4); have BD4 := Lib.hid (bldF_below bD.out hb4); have BB4 := Lib.hid (below_then bN.out (below_size bN.out) hb4); clear hb4) | (go_at_call 42; refine (bld_write gB acc' s _ BD4.out HO.out).mono ?_; rintro e w6 ⟨rfl, bd6, hb6, hk6⟩; have BX6 := Lib.hid (keep_box BD4.out hk6 BX4.out (by decide) (by decide)); have BD6 := Lib.hid bd6; have BB6 := Lib.hid (BB4.out.trans (below_lower hb6 (Nat.le_of_lt GB.out))); clear bd6 hb6 hk6))
                        go_roundg ((x.f0.length : Int) - (j + 1)).toNat
                        case measure => omega
                        case rel => exact ⟨j + 1, acc' ++ s, by first | rfl | go_num, by omega, by omega, rfl, HI, BD6, BX6, BB6⟩
                      · rw [if_neg hmx] at hI
                        cases hI
                    · have hje : j = (x.f0.length : Int) := by omega
                      have hacc : acc' = acc2 := by
                        have hI := HI.out
                        rw [hje, List.drop_eq_nil_of_le (by omega)] at hI
                        exact Option.some.inj hI
                      subst hacc
                      have hltb : decide (j < (x.f0.length : Int)) = false := decide_eq_false hjt
                      clear hje HI hjt
                      have hT := HT.out
                      by_cases hbig : 65536 < acc'.size
                      · rw [if_pos hbig] at hT
                        obtain rfl := Option.some.inj hT
                        have hH := HH.out
                        have hH : some ((⟨#[]⟩ : ByteArray), some 2) = some (r1, r2) := hH
                        obtain ⟨rfl, rfl⟩ := Prod.mk.inj (Option.some.inj hH)
                        clear hH hT HT HH
                        have hbb : decide ((65536 : Int) < (acc'.size : Int)) = true := decide_eq_true (by omega)
                        go_wp2_with (first | (go_at_call 45; refine (bld_len gB acc' _ BD.out).mono ?_; rintro e w5 ⟨rfl, rfl⟩))
                        go_ret2
                        exact ⟨rfl, BB.out⟩
                      · rw [if_neg hbig] at hT
                        have HT2 := Lib.hid hT
                        clear hT HT
                        have hbb : decide ((65536 : Int) < (acc'.size : Int)) = false := decide_eq_false (by omega)
                        go_wp2_with (first | (go_at_call 45; refine (bld_len gB acc' _ BD.out).mono ?_; rintro e w5 ⟨rfl, rfl⟩))
                        go_roundg ((l0_3.length : Int) - (i + 1)).toNat
                        case measure => omega
                        case rel => exact ⟨i + 1, acc', by first | rfl | go_num, by omega, by omega, rfl, HT2, BD, BB⟩
              · rw [if_neg hmx] at hT
                cases hT
            · have hie : i = (l0_3.length : Int) := by omega
              have hL := HT.out
              rw [hie, List.drop_eq_nil_of_le (by omega)] at hL
              obtain rfl := Option.some.inj hL
              have hH := HH.out
              have hH : some (acc, (none : Option Int)) = some (r1, r2) := hH
              obtain ⟨rfl, rfl⟩ := Prod.mk.inj (Option.some.inj hH)
              have hltb : decide (i < (l0_3.length : Int)) = false := decide_eq_false hlt
              clear hie hL hH HH HT hlt
              go_wp2_with (first | (go_at_call 46; refine (bld_string gB acc _ BD.out).mono ?_; rintro e w5 ⟨rfl, hb5⟩; have BB5 := Lib.hid (BB.out.trans (below_lower hb5 (Nat.le_of_lt GB.out))); clear hb5))
              go_ret2
              exact ⟨rfl, BB5.out⟩
    · rw [if_neg hmx] at h
      cases h
def vcode_Pure.j0 : Nat → Int → Int → Bool → Option (Bool)
 | 0, _, _, _ => none
 | k + 1, x0, x3, x4 => if x4 = true then (some true) else (if x3 = 109 then (some false) else (if x3 = 110 then (some false) else (if x3 = 111 then (some false) else (if x3 = 112 then (some false) else (if x3 = 127 then (some false) else (if x3 = 128 then (some false) else (if x3 = 129 then (some false) else (if x3 = 130 then (some false) else ((vcode_reckons.f x0).bind fun t357 => (some t357))))))))))
def vcode_Pure.f (k : Nat) (a0 : Int) : Option (Bool) := if a0 = 66 then (vcode_Pure.j0 k a0 a0 (a0 == 66)) else (if a0 = 192 then (vcode_Pure.j0 k a0 a0 (a0 == 192)) else (if a0 = 27 then (vcode_Pure.j0 k a0 a0 (a0 == 27)) else (if a0 = 63 then (vcode_Pure.j0 k a0 a0 (a0 == 63)) else (vcode_Pure.j0 k a0 a0 (a0 == 35)))))
set_option maxHeartbeats 8000000 in
set_option maxRecDepth 100000 in
theorem vcode_Pure.calls (k : Nat) (a0 : Int) (r : Bool) (w : World) (hG : GG [] w) (h : vcode_Pure.f k a0 = some r) :
  Calls Tryz.prog 40 #[.int .u8 a0] w fun e w' => e = .returned (.bool r) ∧ Below w.heap.size w w' := by
 have HB := Aside0.mk (Below.refl w.heap.size w)
 have HG := Aside0.mk hG
 clear hG
 have H : (if a0 = 66 then (vcode_Pure.j0 k a0 a0 (a0 == 66)) else (if a0 = 192 then (vcode_Pure.j0 k a0 a0 (a0 == 192)) else (if a0 = 27 then (vcode_Pure.j0 k a0 a0 (a0 == 27)) else (if a0 = 63 then (vcode_Pure.j0 k a0 a0 (a0 == 63)) else (vcode_Pure.j0 k a0 a0 (a0 == 35)))))) = some r := h
 clear h
 have HC2 := Aside0.mk H
 clear H
 go_enter Tryz.func40, Tryz.ntmps40
 go_upto_if 4 with (fail)
 go_cut [4] (fun v4 wc => ∃ (kq : Nat) (x4_1 : Bool), v4 = .bool x4_1 ∧ Aside0 (vcode_Pure.j0 kq a0 a0 x4_1 = some r) ∧ Aside0 (kq ≤ k) ∧ Aside0 (Below w.heap.size w wc))
 case first =>
  have H := HC2.out
  clear HC2
  by_cases c3 : a0 = 66
  ·rw [if_pos c3] at H
   have c3b0 : (a0 == 66) = true := beq_iff_eq.mpr c3
   have c3b1 : (a0 != 66) = false := bne_eq_false_iff_eq.mpr c3
   clear c3
   (first | rw [c3b0] | (simp only [i64_w, i32_w]; rw [c3b0]) | skip)
   have H' := Aside0.mk H
   clear H
   go_wp2
   go_meet
   case rel => exact ⟨_, ((a0 == 66)), Q3, H', ⟨Q15⟩, ⟨Q1⟩⟩
  rw [if_neg c3] at H
  have c3b0 : (a0 == 66) = false := beq_eq_false_iff_ne.mpr c3
  have c3b1 : (a0 != 66) = true := bne_iff_ne.mpr c3
  (first | rw [c3b0] | (simp only [i64_w, i32_w]; rw [c3b0]) | skip)
  by_cases c4 : a0 = 192
  ·rw [if_pos c4] at H
   have c4b0 : (a0 == 192) = true := beq_iff_eq.mpr c4
   have c4b1 : (a0 != 192) = false := bne_eq_false_iff_eq.mpr c4
   clear c4
   have H' := Aside0.mk H
   clear H
   go_wp2
   go_meet
   case rel => exact ⟨_, ((a0 == 192)), Q3, H', ⟨Q15⟩, ⟨Q1⟩⟩
  rw [if_neg c4] at H
  have c4b0 : (a0 == 192) = false := beq_eq_false_iff_ne.mpr c4
  have c4b1 : (a0 != 192) = true := bne_iff_ne.mpr c4
  by_cases c5 : a0 = 27
  ·rw [if_pos c5] at H
   have c5b0 : (a0 == 27) = true := beq_iff_eq.mpr c5
   have c5b1 : (a0 != 27) = false := bne_eq_false_iff_eq.mpr c5
   clear c5
   have H' := Aside0.mk H
   clear H
   go_wp2
   go_meet
   case rel => exact ⟨_, ((a0 == 27)), Q3, H', ⟨Q15⟩, ⟨Q1⟩⟩
  rw [if_neg c5] at H
  have c5b0 : (a0 == 27) = false := beq_eq_false_iff_ne.mpr c5
  have c5b1 : (a0 != 27) = true := bne_iff_ne.mpr c5
  by_cases c6 : a0 = 63
  ·rw [if_pos c6] at H
   have c6b0 : (a0 == 63) = true := beq_iff_eq.mpr c6
   have c6b1 : (a0 != 63) = false := bne_eq_false_iff_eq.mpr c6
   clear c6
   have H' := Aside0.mk H
   clear H
   go_wp2
   go_meet
   case rel => exact ⟨_, ((a0 == 63)), Q3, H', ⟨Q15⟩, ⟨Q1⟩⟩
  rw [if_neg c6] at H
  have c6b0 : (a0 == 63) = false := beq_eq_false_iff_ne.mpr c6
  have c6b1 : (a0 != 63) = true := bne_iff_ne.mpr c6
  have H' := Aside0.mk H
  clear H
  go_wp2
  go_meet
  case rel => exact ⟨_, ((a0 == 35)), Q3, H', ⟨Q15⟩, ⟨Q1⟩⟩
 case rest =>
  clear HC2
  obtain ⟨kq, x4_1, rfl, HA, HJ1, HB⟩ := hcut
  cases kq with
  | zero => exact absurd HA.out (by simp [vcode_Pure.j0])
  | succ kj1 =>
   have H := HA.out
   clear HA
   simp only [vcode_Pure.j0] at H
   by_cases c7 : x4_1 = true
   ·subst c7
    have H1 : (some true) = some r := Q14
    clear H
    have H := H1
    clear H1
    obtain rfl := Option.some.inj H
    go_wp2
    go_ret
    exact ⟨Q6, Q1⟩
   replace c7 := Bool.eq_false_iff.mpr c7
   subst c7
   have H1 : (if a0 = 109 then (some false) else (if a0 = 110 then (some false) else (if a0 = 111 then (some false) else (if a0 = 112 then (some false) else (if a0 = 127 then (some false) else (if a0 = 128 then (some false) else (if a0 = 129 then (some false) else (if a0 = 130 then (some false) else ((vcode_reckons.f a0).bind fun t357 => (some t357)))))))))) = some r := by rw [if_neg (show ¬ (false = true) by decide)] at H; exact H
   clear H
   have H := H1
   clear H1
   by_cases c8 : a0 = 109
   ·rw [if_pos c8] at H
    have c8b0 : (a0 == 109) = true := beq_iff_eq.mpr c8
    have c8b1 : (a0 != 109) = false := bne_eq_false_iff_eq.mpr c8
    clear c8
    obtain rfl := Option.some.inj H
    go_wp2
    go_ret
    exact ⟨Q6, Q1⟩
   rw [if_neg c8] at H
   have c8b0 : (a0 == 109) = false := beq_eq_false_iff_ne.mpr c8
   have c8b1 : (a0 != 109) = true := bne_iff_ne.mpr c8
   by_cases c9 : a0 = 110
   ·rw [if_pos c9] at H
    have c9b0 : (a0 == 110) = true := beq_iff_eq.mpr c9
    have c9b1 : (a0 != 110) = false := bne_eq_false_iff_eq.mpr c9
    clear c9
    obtain rfl := Option.some.inj H
    go_wp2
    go_ret
    exact ⟨Q6, Q1⟩
   rw [if_neg c9] at H
   have c9b0 : (a0 == 110) = false := beq_eq_false_iff_ne.mpr c9
   have c9b1 : (a0 != 110) = true := bne_iff_ne.mpr c9
   by_cases c10 : a0 = 111
   ·rw [if_pos c10] at H
    have c10b0 : (a0 == 111) = true := beq_iff_eq.mpr c10
    have c10b1 : (a0 != 111) = false := bne_eq_false_iff_eq.mpr c10
    clear c10
    obtain rfl := Option.some.inj H
    go_wp2
    go_ret
    exact ⟨Q6, Q1⟩
   rw [if_neg c10] at H
   have c10b0 : (a0 == 111) = false := beq_eq_false_iff_ne.mpr c10
   have c10b1 : (a0 != 111) = true := bne_iff_ne.mpr c10
   by_cases c11 : a0 = 112
   ·rw [if_pos c11] at H
    have c11b0 : (a0 == 112) = true := beq_iff_eq.mpr c11
    have c11b1 : (a0 != 112) = false := bne_eq_false_iff_eq.mpr c11
    clear c11
    obtain rfl := Option.some.inj H
    go_wp2
    go_ret
    exact ⟨Q6, Q1⟩
   rw [if_neg c11] at H
   have c11b0 : (a0 == 112) = false := beq_eq_false_iff_ne.mpr c11
   have c11b1 : (a0 != 112) = true := bne_iff_ne.mpr c11
   by_cases c12 : a0 = 127
   ·rw [if_pos c12] at H
    have c12b0 : (a0 == 127) = true := beq_iff_eq.mpr c12
    have c12b1 : (a0 != 127) = false := bne_eq_false_iff_eq.mpr c12
    clear c12
    obtain rfl := Option.some.inj H
    go_wp2
    go_ret
    exact ⟨Q6, Q1⟩
   rw [if_neg c12] at H
   have c12b0 : (a0 == 127) = false := beq_eq_false_iff_ne.mpr c12
   have c12b1 : (a0 != 127) = true := bne_iff_ne.mpr c12
   by_cases c13 : a0 = 128
   ·rw [if_pos c13] at H
    have c13b0 : (a0 == 128) = true := beq_iff_eq.mpr c13
    have c13b1 : (a0 != 128) = false := bne_eq_false_iff_eq.mpr c13
    clear c13
    obtain rfl := Option.some.inj H
    go_wp2
    go_ret
    exact ⟨Q6, Q1⟩
   rw [if_neg c13] at H
   have c13b0 : (a0 == 128) = false := beq_eq_false_iff_ne.mpr c13
   have c13b1 : (a0 != 128) = true := bne_iff_ne.mpr c13
   by_cases c14 : a0 = 129
   ·rw [if_pos c14] at H
    have c14b0 : (a0 == 129) = true := beq_iff_eq.mpr c14
    have c14b1 : (a0 != 129) = false := bne_eq_false_iff_eq.mpr c14
    clear c14
    obtain rfl := Option.some.inj H
    go_wp2
    go_ret
    exact ⟨Q6, Q1⟩
   rw [if_neg c14] at H
   have c14b0 : (a0 == 129) = false := beq_eq_false_iff_ne.mpr c14
   have c14b1 : (a0 != 129) = true := bne_iff_ne.mpr c14
   by_cases c15 : a0 = 130
   ·rw [if_pos c15] at H
    have c15b0 : (a0 == 130) = true := beq_iff_eq.mpr c15
    have c15b1 : (a0 != 130) = false := bne_eq_false_iff_eq.mpr c15
    clear c15
    obtain rfl := Option.some.inj H
    go_wp2
    go_ret
    exact ⟨Q6, Q1⟩
   rw [if_neg c15] at H
   have c15b0 : (a0 == 130) = false := beq_eq_false_iff_ne.mpr c15
   have c15b1 : (a0 != 130) = true := bne_iff_ne.mpr c15
   replace H := Option.bind_eq_some_iff.mp H
   obtain ⟨t357, A160, H⟩ := H
   replace H : (some t357) = some r := H
   have A16 := Aside0.mk A160
   clear A160
   obtain rfl := Option.some.inj H
   go_wp2_with (first | ((with_reducible refine gate_callee (f := 72) rfl ?_); refine goesL_ (some 20) rfl rfl Tryz.func72 Q0 rfl #[.int .u8 a0] rfl Q9 ?_; (with_reducible refine (vcode_reckons.calls a0 t357 _ ?side1 A16.out).mono ?_); (case side1 => exact GG.nil _); rintro e w17 ⟨rfl, hb⟩; refine ⟨_, rfl, ?_⟩; have n0_ := Aside0.mk (below_step Q1 hb); clear HB; have HB := n0_; clear n0_; (try clear hb); (try clear hb2); (try clear hk); (try clear hi)))
   go_ret
   exact ⟨Q6, Q1⟩
def mandrellaw11_sure.f (k : Nat)  : Option (Bool) := (some (([(⟨(([(⟨106, 1, (([0, 0] : List Int)), 0, 0⟩ : S84), (⟨15, (-1), (([1] : List Int)), 0, 0⟩ : S84)] : List (S84))), ([] : List Int), 0⟩ : S87)] : List (S87)) : List (S87))).bind fun y367 => ((vcode_Text.f k 1 2 true y367).bind fun bt371 => (if bt371.2.isNone = true then (if bt371.1.toList = ([114, 101, 103, 115, 32, 50, 32, 112, 97, 114, 97, 109, 115, 32, 49, 32, 114, 101, 115, 117, 108, 116, 10, 98, 108, 111, 99, 107, 32, 48, 32, 100, 101, 112, 116, 104, 32, 48, 10, 32, 32, 114, 49, 32, 61, 32, 105, 51, 50, 46, 97, 100, 100, 32, 114, 48, 32, 114, 48, 10, 32, 32, 114, 101, 116, 117, 114, 110, 32, 114, 49, 10] : List UInt8) then ((vcode_Size.f k 1 2 true y367).bind fun t374 => (if t374 = 2 then ((vcode_Pure.f k 106).bind fun t375 => (if t375 = true then ((vcode_Ends.f 193).bind fun t376 => (some t376)) else (some false))) else (some false))) else (some false)) else (some false)))
set_option maxHeartbeats 8000000 in
set_option maxRecDepth 100000 in
theorem mandrellaw11_sure.calls (k : Nat)  (r : Bool) (w : World) (hG : GG [0, 4] w) (h : mandrellaw11_sure.f k  = some r) :
  Calls Tryz.prog 17 #[] w fun e w' => e = .returned (.bool r) ∧ Below w.heap.size w w' := by
 have hu84 := Tryz.underlying84
 have hu87 := Tryz.underlying87
 have hu35 := Tryz.underlying35
 have hu30 := Tryz.underlying30
 have hu104 := Tryz.underlying104
 have HB := Aside0.mk (Below.refl w.heap.size w)
 have HG := Aside0.mk hG
 clear hG
 have H : ((some (([(⟨(([(⟨106, 1, (([0, 0] : List Int)), 0, 0⟩ : S84), (⟨15, (-1), (([1] : List Int)), 0, 0⟩ : S84)] : List (S84))), ([] : List Int), 0⟩ : S87)] : List (S87)) : List (S87))).bind fun y367 => ((vcode_Text.f k 1 2 true y367).bind fun bt371 => (if bt371.2.isNone = true then (if bt371.1.toList = ([114, 101, 103, 115, 32, 50, 32, 112, 97, 114, 97, 109, 115, 32, 49, 32, 114, 101, 115, 117, 108, 116, 10, 98, 108, 111, 99, 107, 32, 48, 32, 100, 101, 112, 116, 104, 32, 48, 10, 32, 32, 114, 49, 32, 61, 32, 105, 51, 50, 46, 97, 100, 100, 32, 114, 48, 32, 114, 48, 10, 32, 32, 114, 101, 116, 117, 114, 110, 32, 114, 49, 10] : List UInt8) then ((vcode_Size.f k 1 2 true y367).bind fun t374 => (if t374 = 2 then ((vcode_Pure.f k 106).bind fun t375 => (if t375 = true then ((vcode_Ends.f 193).bind fun t376 => (some t376)) else (some false))) else (some false))) else (some false)) else (some false)))) = some r := h
 clear h
 obtain ⟨y358, hy358⟩ : ∃ y_ : List Int, y_ = (([0, 0] : List Int)) := ⟨_, rfl⟩
 replace H : ((some (([(⟨(([(⟨106, 1, y358, 0, 0⟩ : S84), (⟨15, (-1), (([1] : List Int)), 0, 0⟩ : S84)] : List (S84))), ([] : List Int), 0⟩ : S87)] : List (S87)) : List (S87))).bind fun y367 => ((vcode_Text.f k 1 2 true y367).bind fun bt371 => (if bt371.2.isNone = true then (if bt371.1.toList = ([114, 101, 103, 115, 32, 50, 32, 112, 97, 114, 97, 109, 115, 32, 49, 32, 114, 101, 115, 117, 108, 116, 10, 98, 108, 111, 99, 107, 32, 48, 32, 100, 101, 112, 116, 104, 32, 48, 10, 32, 32, 114, 49, 32, 61, 32, 105, 51, 50, 46, 97, 100, 100, 32, 114, 48, 32, 114, 48, 10, 32, 32, 114, 101, 116, 117, 114, 110, 32, 114, 49, 10] : List UInt8) then ((vcode_Size.f k 1 2 true y367).bind fun t374 => (if t374 = 2 then ((vcode_Pure.f k 106).bind fun t375 => (if t375 = true then ((vcode_Ends.f 193).bind fun t376 => (some t376)) else (some false))) else (some false))) else (some false)) else (some false)))) = some r := by first | (rw [hy358]; with_reducible exact H) | (have H2_ := (Option.bind_some _ _).symm.trans H; rw [hy358]; with_reducible exact H2_) | (have H2_ := (Option.bind_some _ _).symm.trans H; with_reducible exact H2_) | with_reducible exact H | (rw [hy358]; exact H) | exact H
 have Ny358 := Aside0.mk hy358
 clear hy358
 obtain ⟨y361, hy361⟩ : ∃ y_ : List Int, y_ = (([1] : List Int)) := ⟨_, rfl⟩
 replace H : ((some (([(⟨(([(⟨106, 1, y358, 0, 0⟩ : S84), (⟨15, (-1), y361, 0, 0⟩ : S84)] : List (S84))), ([] : List Int), 0⟩ : S87)] : List (S87)) : List (S87))).bind fun y367 => ((vcode_Text.f k 1 2 true y367).bind fun bt371 => (if bt371.2.isNone = true then (if bt371.1.toList = ([114, 101, 103, 115, 32, 50, 32, 112, 97, 114, 97, 109, 115, 32, 49, 32, 114, 101, 115, 117, 108, 116, 10, 98, 108, 111, 99, 107, 32, 48, 32, 100, 101, 112, 116, 104, 32, 48, 10, 32, 32, 114, 49, 32, 61, 32, 105, 51, 50, 46, 97, 100, 100, 32, 114, 48, 32, 114, 48, 10, 32, 32, 114, 101, 116, 117, 114, 110, 32, 114, 49, 10] : List UInt8) then ((vcode_Size.f k 1 2 true y367).bind fun t374 => (if t374 = 2 then ((vcode_Pure.f k 106).bind fun t375 => (if t375 = true then ((vcode_Ends.f 193).bind fun t376 => (some t376)) else (some false))) else (some false))) else (some false)) else (some false)))) = some r := by first | (rw [hy361]; with_reducible exact H) | (have H2_ := (Option.bind_some _ _).symm.trans H; rw [hy361]; with_reducible exact H2_) | (have H2_ := (Option.bind_some _ _).symm.trans H; with_reducible exact H2_) | with_reducible exact H | (rw [hy361]; exact H) | exact H
 have Ny361 := Aside0.mk hy361
 clear hy361
 obtain ⟨y364, hy364⟩ : ∃ y_ : List (S84), y_ = (([(⟨106, 1, y358, 0, 0⟩ : S84), (⟨15, (-1), y361, 0, 0⟩ : S84)] : List (S84))) := ⟨_, rfl⟩
 replace H : ((some (([(⟨y364, ([] : List Int), 0⟩ : S87)] : List (S87)) : List (S87))).bind fun y367 => ((vcode_Text.f k 1 2 true y367).bind fun bt371 => (if bt371.2.isNone = true then (if bt371.1.toList = ([114, 101, 103, 115, 32, 50, 32, 112, 97, 114, 97, 109, 115, 32, 49, 32, 114, 101, 115, 117, 108, 116, 10, 98, 108, 111, 99, 107, 32, 48, 32, 100, 101, 112, 116, 104, 32, 48, 10, 32, 32, 114, 49, 32, 61, 32, 105, 51, 50, 46, 97, 100, 100, 32, 114, 48, 32, 114, 48, 10, 32, 32, 114, 101, 116, 117, 114, 110, 32, 114, 49, 10] : List UInt8) then ((vcode_Size.f k 1 2 true y367).bind fun t374 => (if t374 = 2 then ((vcode_Pure.f k 106).bind fun t375 => (if t375 = true then ((vcode_Ends.f 193).bind fun t376 => (some t376)) else (some false))) else (some false))) else (some false)) else (some false)))) = some r := by first | (rw [hy364]; with_reducible exact H) | (have H2_ := (Option.bind_some _ _).symm.trans H; rw [hy364]; with_reducible exact H2_) | (have H2_ := (Option.bind_some _ _).symm.trans H; with_reducible exact H2_) | with_reducible exact H | (rw [hy364]; exact H) | exact H
 have Ny364 := Aside0.mk hy364
 clear hy364
 obtain ⟨y367, hy367⟩ : ∃ y_ : List (S87), y_ = (([(⟨y364, ([] : List Int), 0⟩ : S87)] : List (S87))) := ⟨_, rfl⟩
 replace H : ((vcode_Text.f k 1 2 true y367).bind fun bt371 => (if bt371.2.isNone = true then (if bt371.1.toList = ([114, 101, 103, 115, 32, 50, 32, 112, 97, 114, 97, 109, 115, 32, 49, 32, 114, 101, 115, 117, 108, 116, 10, 98, 108, 111, 99, 107, 32, 48, 32, 100, 101, 112, 116, 104, 32, 48, 10, 32, 32, 114, 49, 32, 61, 32, 105, 51, 50, 46, 97, 100, 100, 32, 114, 48, 32, 114, 48, 10, 32, 32, 114, 101, 116, 117, 114, 110, 32, 114, 49, 10] : List UInt8) then ((vcode_Size.f k 1 2 true y367).bind fun t374 => (if t374 = 2 then ((vcode_Pure.f k 106).bind fun t375 => (if t375 = true then ((vcode_Ends.f 193).bind fun t376 => (some t376)) else (some false))) else (some false))) else (some false)) else (some false))) = some r := by first | (rw [hy367]; with_reducible exact H) | (have H2_ := (Option.bind_some _ _).symm.trans H; rw [hy367]; with_reducible exact H2_) | (have H2_ := (Option.bind_some _ _).symm.trans H; with_reducible exact H2_) | with_reducible exact H | (rw [hy367]; exact H) | exact H
 have Ny367 := Aside0.mk hy367
 clear hy367
 replace H := Option.bind_eq_some_iff.mp H
 obtain ⟨⟨t371, t372⟩, A10, H⟩ := H
 replace H : (if t372.isNone = true then (if t371.toList = ([114, 101, 103, 115, 32, 50, 32, 112, 97, 114, 97, 109, 115, 32, 49, 32, 114, 101, 115, 117, 108, 116, 10, 98, 108, 111, 99, 107, 32, 48, 32, 100, 101, 112, 116, 104, 32, 48, 10, 32, 32, 114, 49, 32, 61, 32, 105, 51, 50, 46, 97, 100, 100, 32, 114, 48, 32, 114, 48, 10, 32, 32, 114, 101, 116, 117, 114, 110, 32, 114, 49, 10] : List UInt8) then ((vcode_Size.f k 1 2 true y367).bind fun t374 => (if t374 = 2 then ((vcode_Pure.f k 106).bind fun t375 => (if t375 = true then ((vcode_Ends.f 193).bind fun t376 => (some t376)) else (some false))) else (some false))) else (some false)) else (some false)) = some r := H
 have A1 := Aside0.mk A10
 clear A10
 rcases t372 with _ | q373
 ·have H1 : (if t371.toList = ([114, 101, 103, 115, 32, 50, 32, 112, 97, 114, 97, 109, 115, 32, 49, 32, 114, 101, 115, 117, 108, 116, 10, 98, 108, 111, 99, 107, 32, 48, 32, 100, 101, 112, 116, 104, 32, 48, 10, 32, 32, 114, 49, 32, 61, 32, 105, 51, 50, 46, 97, 100, 100, 32, 114, 48, 32, 114, 48, 10, 32, 32, 114, 101, 116, 117, 114, 110, 32, 114, 49, 10] : List UInt8) then ((vcode_Size.f k 1 2 true y367).bind fun t374 => (if t374 = 2 then ((vcode_Pure.f k 106).bind fun t375 => (if t375 = true then ((vcode_Ends.f 193).bind fun t376 => (some t376)) else (some false))) else (some false))) else (some false)) = some r := by rw [if_pos (show (none : Option Int).isNone = true by rfl)] at H; exact H
  clear H
  have H := H1
  clear H1
  try simp only [errW_none, errW_some]
  by_cases c2 : t371.toList = ([114, 101, 103, 115, 32, 50, 32, 112, 97, 114, 97, 109, 115, 32, 49, 32, 114, 101, 115, 117, 108, 116, 10, 98, 108, 111, 99, 107, 32, 48, 32, 100, 101, 112, 116, 104, 32, 48, 10, 32, 32, 114, 49, 32, 61, 32, 105, 51, 50, 46, 97, 100, 100, 32, 114, 48, 32, 114, 48, 10, 32, 32, 114, 101, 116, 117, 114, 110, 32, 114, 49, 10] : List UInt8)
  ·rw [if_pos c2] at H
   have c2b0 : (t371.toList == ([114, 101, 103, 115, 32, 50, 32, 112, 97, 114, 97, 109, 115, 32, 49, 32, 114, 101, 115, 117, 108, 116, 10, 98, 108, 111, 99, 107, 32, 48, 32, 100, 101, 112, 116, 104, 32, 48, 10, 32, 32, 114, 49, 32, 61, 32, 105, 51, 50, 46, 97, 100, 100, 32, 114, 48, 32, 114, 48, 10, 32, 32, 114, 101, 116, 117, 114, 110, 32, 114, 49, 10] : List UInt8)) = true := beq_iff_eq.mpr c2
   have c2b1 : (t371.toList != ([114, 101, 103, 115, 32, 50, 32, 112, 97, 114, 97, 109, 115, 32, 49, 32, 114, 101, 115, 117, 108, 116, 10, 98, 108, 111, 99, 107, 32, 48, 32, 100, 101, 112, 116, 104, 32, 48, 10, 32, 32, 114, 49, 32, 61, 32, 105, 51, 50, 46, 97, 100, 100, 32, 114, 48, 32, 114, 48, 10, 32, 32, 114, 101, 116, 117, 114, 110, 32, 114, 49, 10] : List UInt8)) = false := bne_eq_false_iff_eq.mpr c2
   clear c2
   replace H := Option.bind_eq_some_iff.mp H
   obtain ⟨t374, A30, H⟩ := H
   replace H : (if t374 = 2 then ((vcode_Pure.f k 106).bind fun t375 => (if t375 = true then ((vcode_Ends.f 193).bind fun t376 => (some t376)) else (some false))) else (some false)) = some r := H
   have A3 := Aside0.mk A30
   clear A30
   by_cases c4 : t374 = 2
   ·rw [if_pos c4] at H
    have c4b0 : (t374 == 2) = true := beq_iff_eq.mpr c4
    have c4b1 : (t374 != 2) = false := bne_eq_false_iff_eq.mpr c4
    clear c4
    replace H := Option.bind_eq_some_iff.mp H
    obtain ⟨t375, A50, H⟩ := H
    replace H : (if t375 = true then ((vcode_Ends.f 193).bind fun t376 => (some t376)) else (some false)) = some r := H
    have A5 := Aside0.mk A50
    clear A50
    by_cases c6 : t375 = true
    ·subst c6
     have H1 : ((vcode_Ends.f 193).bind fun t376 => (some t376)) = some r := Q14
     clear H
     have H := H1
     clear H1
     replace H := Option.bind_eq_some_iff.mp H
     obtain ⟨t376, A70, H⟩ := H
     replace H : (some t376) = some r := H
     have A7 := Aside0.mk A70
     clear A70
     obtain rfl := Option.some.inj H
     go_enter Tryz.func17, Tryz.ntmps17
     go_wp2_with (first | ((with_reducible refine gate_dst (N := 4) rfl ?_); refine Kd.R_lit (Kd.int .i64) _ 3 ?hg (N := 4) ?hd (xs := ([0, 0] : List Int)) (inner := [.int .i64 0, .int .i64 0]) (ok := fun _ => True) (okp := fun _ => True) ?hr ?hp (fun _ hk => hk) trivial (Below.refl _ _) (Nat.le_refl _) Q8 ?_; (case hd => rfl); (case hg => rfl); (case hr => first | (go_simp; done) | (go_simp; rfl)); (case hp => exact (Reps.one (show Kd.M (Kd.int .i64) _ _ _ 0 [.int .i64 0] from rfl) (Reps.one (show Kd.M (Kd.int .i64) _ _ _ 0 [.int .i64 0] from rfl) (Reps.none _ _)))); intro v359 w8 ho9 hb hg_ hnew_; clear hg_ hnew_; (first | rw [← Ny358.out] at ho9 | (simp only [Int.reduceToNat] at ho9; rw [← Ny358.out] at ho9)); have n0_ := Aside0.mk (Kd.R_lower ho9 (below_size Q1)); have n1_ := Aside0.mk (below_step Q1 hb); clear HB; have HO360 := n0_; have HB := n1_; clear n0_ n1_; clear hb ho9; obtain ⟨Ao10, co10, eo10⟩ := Kd.R_slice HO360.out; subst eo10) | ((with_reducible refine gate_dst (N := 6) rfl ?_); refine Kd.R_lit (Kd.int .i64) _ 3 ?hg (N := 6) ?hd (xs := ([1] : List Int)) (inner := [.int .i64 1]) (ok := fun _ => True) (okp := fun _ => True) ?hr ?hp (fun _ hk => hk) trivial (Below.refl _ _) (Nat.le_refl _) Q8 ?_; (case hd => rfl); (case hg => rfl); (case hr => first | (go_simp; done) | (go_simp; rfl)); (case hp => exact (Reps.one (show Kd.M (Kd.int .i64) _ _ _ 1 [.int .i64 1] from rfl) (Reps.none _ _))); intro v362 w11 ho12 hb hg_ hnew_; clear hg_ hnew_; (first | rw [← Ny361.out] at ho12 | (simp only [Int.reduceToNat] at ho12; rw [← Ny361.out] at ho12)); have n0_ := Aside0.mk (Kd.R_elder' Q46 (Kd.R_base ho12) hb); have n1_ := Aside0.mk (Kd.R_lower (Kd.R_new' ho12 (Kd.R_lt Q46)) (below_size Q1)); have n2_ := Aside0.mk (below_step Q1 hb); clear HO360; clear HB; have HO360 := n0_; have HO363 := n1_; have HB := n2_; clear n0_ n1_ n2_; clear hb ho12; obtain ⟨Ao13, co13, eo13⟩ := Kd.R_slice HO363.out; subst eo13) | ((with_reducible refine gate_dst (N := 8) rfl ?_); refine Kd.N_lit k84 _ 84 ?hg (N' := 8) ?hd (xs := ([(⟨106, 1, y358, 0, 0⟩ : S84), (⟨15, (-1), y361, 0, 0⟩ : S84)] : List (S84))) (inner := [.int .u8 106, .int .i64 1, .slice Ao10 y358.length co10, .int .i64 0, .int .u32 0, .int .u8 15, .int .i64 (-1), .slice Ao13 y361.length co13, .int .i64 0, .int .u32 0]) (ok := (fun _ => True)) (okp := (fun _ => True)) ?hr ?hp (fun _ hk => hk) ((show ∀ k_, w11.heap.size ≤ k_ → (fun _ => True) k_ from fun k_ hk => trivial) _ (Nat.le_refl _)) (Below.refl _ _) (Nat.le_refl _) Q8 ?_; (case hd => rfl); (case hg => rfl); (case hr => first | (go_simp; done) | (go_simp; rfl)); (case hp => exact (Reps.c5 (show Kd.FK k84 _ _ (⟨106, 1, y358, 0, 0⟩ : S84) [.int .u8 106, .int .i64 1, .slice Ao10 y358.length co10, .int .i64 0, .int .u32 0] from (k84_mkF _ _ (⟨106, 1, y358, 0, 0⟩ : S84) (Kd.R_reads' (Kd.R_mono (ok' := (fun _ => True)) (HO360.out) (fun k_ hk => trivial))).2.1 (Kd.R_F (Kd.R_mono (ok' := (fun _ => True)) (HO360.out) (fun k_ hk => trivial))))) (Reps.c5 (show Kd.FK k84 _ _ (⟨15, (-1), y361, 0, 0⟩ : S84) [.int .u8 15, .int .i64 (-1), .slice Ao13 y361.length co13, .int .i64 0, .int .u32 0] from (k84_mkF _ _ (⟨15, (-1), y361, 0, 0⟩ : S84) (Kd.R_reads' (Kd.R_mono (ok' := (fun _ => True)) (HO363.out) (fun k_ hk => trivial))).2.1 (Kd.R_F (Kd.R_mono (ok' := (fun _ => True)) (HO363.out) (fun k_ hk => trivial))))) (Reps.none _ _)))); intro v365 w14 ho15 hb hg_ hnew_; clear hg_ hnew_; (first | rw [← Ny364.out] at ho15 | (simp only [Int.reduceToNat] at ho15; rw [← Ny364.out] at ho15)); have n0_ := Aside0.mk (Kd.N_lower ho15 (below_size Q1)); have n1_ := Aside0.mk (below_step Q1 hb); clear HB; clear HO360; clear HO363; have HO366 := n0_; have HB := n1_; clear n0_ n1_; clear hb ho15; obtain ⟨Ao16, co16, eo16⟩ := Kd.N_slice HO366.out; subst eo16) | ((with_reducible refine gate_dst (N := 10) rfl ?_); refine Kd.N_lit k87 _ 87 ?hg (N' := 10) ?hd (xs := ([(⟨y364, ([] : List Int), 0⟩ : S87)] : List (S87))) (inner := [.slice Ao16 y364.length co16, .slice none 0 0, .int .i64 0]) (ok := (fun _ => True)) (okp := (fun _ => True)) ?hr ?hp (fun _ hk => hk) ((show ∀ k_, w14.heap.size ≤ k_ → (fun _ => True) k_ from fun k_ hk => trivial) _ (Nat.le_refl _)) (Below.refl _ _) (Nat.le_refl _) Q8 ?_; (case hd => rfl); (case hg => rfl); (case hr => first | (go_simp; done) | (go_simp; rfl)); (case hp => exact (Reps.c3 (show Kd.FK k87 _ _ (⟨y364, ([] : List Int), 0⟩ : S87) [.slice Ao16 y364.length co16, .slice none 0 0, .int .i64 0] from (k87_mkF _ _ (⟨y364, ([] : List Int), 0⟩ : S87) (Kd.N_reads' (Kd.N_mono (ok' := (fun _ => True)) (HO366.out) (fun k_ hk => trivial))).2.1 (Kd.N_F (Kd.N_mono (ok' := (fun _ => True)) (HO366.out) (fun k_ hk => trivial))) (Nat.le_refl _) (Kd.F_nil _ _ _))) (Reps.none _ _))); intro v368 w17 ho18 hb hg_ hnew_; clear hg_ hnew_; (first | rw [← Ny367.out] at ho18 | (simp only [Int.reduceToNat] at ho18; rw [← Ny367.out] at ho18)); have n0_ := Aside0.mk (Kd.N_lower ho18 (below_size Q1)); have n1_ := Aside0.mk (below_step Q1 hb); clear HB; clear HO366; have HO369 := n0_; have HB := n1_; clear n0_ n1_; clear hb ho18; obtain ⟨Ao19, co19, eo19⟩ := Kd.N_slice HO369.out; subst eo19) | ((with_reducible refine gate_dst (N := 1) rfl ?_); refine box_event ?hg (N := 1) ?hd (cs := #[.int .i64 0, .int .i64 0, .bool false, .slice none 0 0]) (t := 35) ?hr ?_; (case hd => rfl); (case hg => rfl); (case hr => first | (go_simp; done) | (go_simp; rfl)); intro gb370 hg w20 hbox hb; have n0_ := Aside0.mk (Kd.N_below (Kd.N_elderB Q47 gb370 (Nat.le_of_eq hg.symm)) hb); have n1_ := Aside0.mk (below_step Q1 hb); have n2_ := Aside0.mk (hbox); have n3_ := Aside0.mk ((Q155 : w.heap.size ≤ gb370)); have n4_ := Aside0.mk ((Q155 : w.heap.size ≤ gb370)); clear HO369; clear HB; have HO369 := n0_; have HB := n1_; have BK370 := n2_; have GW370 := n3_; have GE370 := n4_; clear n0_ n1_ n2_ n3_ n4_; clear hb hbox hg; have hcz21_0 : w20.cell? ⟨gb370, 0, none⟩ = some (.int .i64 0) := (blk_cell BK370.out 0).trans rfl; have hcz21_1 : w20.cell? ⟨gb370, 1, none⟩ = some (.int .i64 0) := (blk_cell BK370.out 1).trans rfl; have hcz21_2 : w20.cell? ⟨gb370, 2, none⟩ = some (.bool false) := (blk_cell BK370.out 2).trans rfl; have hcz21_3 : w20.cell? ⟨gb370, 3, none⟩ = some (.slice none 0 0) := (blk_cell BK370.out 3).trans rfl; have hfz21_0 := blk_frozen BK370.out 0; have hfz21_1 := blk_frozen BK370.out 1; have hfz21_2 := blk_frozen BK370.out 2; have hfz21_3 := blk_frozen BK370.out 3) | ((with_reducible refine gate_callee (f := 18) rfl ?_); refine goesL_ (some 14) rfl rfl Tryz.func18 Q0 rfl #[.agg #[.int .i64 1, .int .i64 2, .bool true, .slice Ao19 y367.length co19]] rfl Q9 ?_; (with_reducible refine (vcode_Text.calls k 1 2 true _ _ y367 t371 none _ ?side1 ?side2 ?side3 A1.out).mono ?_); (case side1 => refine (Kd.N_reads' (e := 87) (base := w.heap.size) (ok := fun k_ => (True ∧ k_ ≠ gb370)) (n := y367.length) (c := co19) ?_).2.2; exact Q125); (case side2 => exact (Kd.N_reads' HO369.out).2.1); (case side3 => exact GG.below Q32 HG.out); rintro e w22 ⟨rfl, hb⟩; refine ⟨_, rfl, ?_⟩; have n0_ := Aside0.mk (Kd.N_below Q125 hb); have n1_ := Aside0.mk (blk_below (g := gb370) (o := .cells #[.int .i64 1, .int .i64 2, .bool true, .slice Ao19 y367.length co19] 35 (0, 0)) Q66 hb); have n2_ := Aside0.mk (below_step Q32 hb); clear HO369; clear BK370; clear HB; have HO369 := n0_; have BK370 := n1_; have HB := n2_; clear n0_ n1_ n2_; (try clear hb); (try clear hb2); (try clear hk); (try clear hi); (try simp only [errW_none, errW_some]); have hcz23_0 : w22.cell? ⟨gb370, 0, none⟩ = some (.int .i64 1) := (blk_cell BK370.out 0).trans rfl; have hcz23_1 : w22.cell? ⟨gb370, 1, none⟩ = some (.int .i64 2) := (blk_cell BK370.out 1).trans rfl; have hcz23_2 : w22.cell? ⟨gb370, 2, none⟩ = some (.bool true) := (blk_cell BK370.out 2).trans rfl; have hcz23_3 : w22.cell? ⟨gb370, 3, none⟩ = some (.slice Ao19 y367.length co19) := (blk_cell BK370.out 3).trans rfl; have hfz23_0 := blk_frozen BK370.out 0; have hfz23_1 := blk_frozen BK370.out 1; have hfz23_2 := blk_frozen BK370.out 2; have hfz23_3 := blk_frozen BK370.out 3) | (go_at_call 33; (with_reducible refine (vcode_Size.calls k 1 2 true _ _ y367 t374 _ ?side1 ?side2 ?side3 A3.out).mono ?_); (case side1 => repeat (first | exact (Kd.N_reads' HO369.out).2.2 | (with_reducible refine Kd.C_alloc ?_ _) | (with_reducible refine Kd.C_drewN ?_ _) | (with_reducible refine Kd.C_drew ?_))); (case side2 => exact (Kd.N_reads' HO369.out).2.1); (case side3 => exact GG.nil _); rintro e w24 ⟨rfl, hb⟩; have n0_ := Aside0.mk (Kd.N_below Q47 hb); have n1_ := Aside0.mk (blk_below (g := gb370) (o := .cells #[.int .i64 1, .int .i64 2, .bool true, .slice Ao19 y367.length co19] 35 (0, 0)) Q67 hb); have n2_ := Aside0.mk (below_step Q32 hb); clear HO369; clear BK370; clear HB; have HO369 := n0_; have BK370 := n1_; have HB := n2_; clear n0_ n1_ n2_; (try clear hb); (try clear hb2); (try clear hk); (try clear hi)) | (go_at_call 40; (with_reducible refine (vcode_Pure.calls k 106 true _ ?side1 A5.out).mono ?_); (case side1 => exact GG.nil _); rintro e w25 ⟨rfl, hb⟩; have n0_ := Aside0.mk (Kd.N_below Q47 hb); have n1_ := Aside0.mk (blk_below (g := gb370) (o := .cells #[.int .i64 1, .int .i64 2, .bool true, .slice Ao19 y367.length co19] 35 (0, 0)) Q67 hb); have n2_ := Aside0.mk (below_step Q32 hb); clear HO369; clear BK370; clear HB; have HO369 := n0_; have BK370 := n1_; have HB := n2_; clear n0_ n1_ n2_; (try clear hb); (try clear hb2); (try clear hk); (try clear hi)) | (go_at_call 41; (with_reducible refine (vcode_Ends.calls 193 t376 _ ?side1 A7.out).mono ?_); (case side1 => exact GG.nil _); rintro e w' ⟨rfl, ⟨nd, rfl⟩⟩))
     go_ret
     exact ⟨Q6, Q32⟩
    replace c6 := Bool.eq_false_iff.mpr c6
    subst c6
    have H1 : (some false) = some r := by rw [if_neg (show ¬ (false = true) by decide)] at H; exact H
    clear H
    have H := H1
    clear H1
    obtain rfl := Option.some.inj H
    go_enter Tryz.func17, Tryz.ntmps17
    go_wp2_with (first | ((with_reducible refine gate_dst (N := 4) rfl ?_); refine Kd.R_lit (Kd.int .i64) _ 3 ?hg (N := 4) ?hd (xs := ([0, 0] : List Int)) (inner := [.int .i64 0, .int .i64 0]) (ok := fun _ => True) (okp := fun _ => True) ?hr ?hp (fun _ hk => hk) trivial (Below.refl _ _) (Nat.le_refl _) Q8 ?_; (case hd => rfl); (case hg => rfl); (case hr => first | (go_simp; done) | (go_simp; rfl)); (case hp => exact (Reps.one (show Kd.M (Kd.int .i64) _ _ _ 0 [.int .i64 0] from rfl) (Reps.one (show Kd.M (Kd.int .i64) _ _ _ 0 [.int .i64 0] from rfl) (Reps.none _ _)))); intro v359 w26 ho27 hb hg_ hnew_; clear hg_ hnew_; (first | rw [← Ny358.out] at ho27 | (simp only [Int.reduceToNat] at ho27; rw [← Ny358.out] at ho27)); have n0_ := Aside0.mk (Kd.R_lower ho27 (below_size Q1)); have n1_ := Aside0.mk (below_step Q1 hb); clear HB; have HO360 := n0_; have HB := n1_; clear n0_ n1_; clear hb ho27; obtain ⟨Ao28, co28, eo28⟩ := Kd.R_slice HO360.out; subst eo28) | ((with_reducible refine gate_dst (N := 6) rfl ?_); refine Kd.R_lit (Kd.int .i64) _ 3 ?hg (N := 6) ?hd (xs := ([1] : List Int)) (inner := [.int .i64 1]) (ok := fun _ => True) (okp := fun _ => True) ?hr ?hp (fun _ hk => hk) trivial (Below.refl _ _) (Nat.le_refl _) Q8 ?_; (case hd => rfl); (case hg => rfl); (case hr => first | (go_simp; done) | (go_simp; rfl)); (case hp => exact (Reps.one (show Kd.M (Kd.int .i64) _ _ _ 1 [.int .i64 1] from rfl) (Reps.none _ _))); intro v362 w29 ho30 hb hg_ hnew_; clear hg_ hnew_; (first | rw [← Ny361.out] at ho30 | (simp only [Int.reduceToNat] at ho30; rw [← Ny361.out] at ho30)); have n0_ := Aside0.mk (Kd.R_elder' Q46 (Kd.R_base ho30) hb); have n1_ := Aside0.mk (Kd.R_lower (Kd.R_new' ho30 (Kd.R_lt Q46)) (below_size Q1)); have n2_ := Aside0.mk (below_step Q1 hb); clear HO360; clear HB; have HO360 := n0_; have HO363 := n1_; have HB := n2_; clear n0_ n1_ n2_; clear hb ho30; obtain ⟨Ao31, co31, eo31⟩ := Kd.R_slice HO363.out; subst eo31) | ((with_reducible refine gate_dst (N := 8) rfl ?_); refine Kd.N_lit k84 _ 84 ?hg (N' := 8) ?hd (xs := ([(⟨106, 1, y358, 0, 0⟩ : S84), (⟨15, (-1), y361, 0, 0⟩ : S84)] : List (S84))) (inner := [.int .u8 106, .int .i64 1, .slice Ao28 y358.length co28, .int .i64 0, .int .u32 0, .int .u8 15, .int .i64 (-1), .slice Ao31 y361.length co31, .int .i64 0, .int .u32 0]) (ok := (fun _ => True)) (okp := (fun _ => True)) ?hr ?hp (fun _ hk => hk) ((show ∀ k_, w29.heap.size ≤ k_ → (fun _ => True) k_ from fun k_ hk => trivial) _ (Nat.le_refl _)) (Below.refl _ _) (Nat.le_refl _) Q8 ?_; (case hd => rfl); (case hg => rfl); (case hr => first | (go_simp; done) | (go_simp; rfl)); (case hp => exact (Reps.c5 (show Kd.FK k84 _ _ (⟨106, 1, y358, 0, 0⟩ : S84) [.int .u8 106, .int .i64 1, .slice Ao28 y358.length co28, .int .i64 0, .int .u32 0] from (k84_mkF _ _ (⟨106, 1, y358, 0, 0⟩ : S84) (Kd.R_reads' (Kd.R_mono (ok' := (fun _ => True)) (HO360.out) (fun k_ hk => trivial))).2.1 (Kd.R_F (Kd.R_mono (ok' := (fun _ => True)) (HO360.out) (fun k_ hk => trivial))))) (Reps.c5 (show Kd.FK k84 _ _ (⟨15, (-1), y361, 0, 0⟩ : S84) [.int .u8 15, .int .i64 (-1), .slice Ao31 y361.length co31, .int .i64 0, .int .u32 0] from (k84_mkF _ _ (⟨15, (-1), y361, 0, 0⟩ : S84) (Kd.R_reads' (Kd.R_mono (ok' := (fun _ => True)) (HO363.out) (fun k_ hk => trivial))).2.1 (Kd.R_F (Kd.R_mono (ok' := (fun _ => True)) (HO363.out) (fun k_ hk => trivial))))) (Reps.none _ _)))); intro v365 w32 ho33 hb hg_ hnew_; clear hg_ hnew_; (first | rw [← Ny364.out] at ho33 | (simp only [Int.reduceToNat] at ho33; rw [← Ny364.out] at ho33)); have n0_ := Aside0.mk (Kd.N_lower ho33 (below_size Q1)); have n1_ := Aside0.mk (below_step Q1 hb); clear HB; clear HO360; clear HO363; have HO366 := n0_; have HB := n1_; clear n0_ n1_; clear hb ho33; obtain ⟨Ao34, co34, eo34⟩ := Kd.N_slice HO366.out; subst eo34) | ((with_reducible refine gate_dst (N := 10) rfl ?_); refine Kd.N_lit k87 _ 87 ?hg (N' := 10) ?hd (xs := ([(⟨y364, ([] : List Int), 0⟩ : S87)] : List (S87))) (inner := [.slice Ao34 y364.length co34, .slice none 0 0, .int .i64 0]) (ok := (fun _ => True)) (okp := (fun _ => True)) ?hr ?hp (fun _ hk => hk) ((show ∀ k_, w32.heap.size ≤ k_ → (fun _ => True) k_ from fun k_ hk => trivial) _ (Nat.le_refl _)) (Below.refl _ _) (Nat.le_refl _) Q8 ?_; (case hd => rfl); (case hg => rfl); (case hr => first | (go_simp; done) | (go_simp; rfl)); (case hp => exact (Reps.c3 (show Kd.FK k87 _ _ (⟨y364, ([] : List Int), 0⟩ : S87) [.slice Ao34 y364.length co34, .slice none 0 0, .int .i64 0] from (k87_mkF _ _ (⟨y364, ([] : List Int), 0⟩ : S87) (Kd.N_reads' (Kd.N_mono (ok' := (fun _ => True)) (HO366.out) (fun k_ hk => trivial))).2.1 (Kd.N_F (Kd.N_mono (ok' := (fun _ => True)) (HO366.out) (fun k_ hk => trivial))) (Nat.le_refl _) (Kd.F_nil _ _ _))) (Reps.none _ _))); intro v368 w35 ho36 hb hg_ hnew_; clear hg_ hnew_; (first | rw [← Ny367.out] at ho36 | (simp only [Int.reduceToNat] at ho36; rw [← Ny367.out] at ho36)); have n0_ := Aside0.mk (Kd.N_lower ho36 (below_size Q1)); have n1_ := Aside0.mk (below_step Q1 hb); clear HB; clear HO366; have HO369 := n0_; have HB := n1_; clear n0_ n1_; clear hb ho36; obtain ⟨Ao37, co37, eo37⟩ := Kd.N_slice HO369.out; subst eo37) | ((with_reducible refine gate_dst (N := 1) rfl ?_); refine box_event ?hg (N := 1) ?hd (cs := #[.int .i64 0, .int .i64 0, .bool false, .slice none 0 0]) (t := 35) ?hr ?_; (case hd => rfl); (case hg => rfl); (case hr => first | (go_simp; done) | (go_simp; rfl)); intro gb370 hg w38 hbox hb; have n0_ := Aside0.mk (Kd.N_below (Kd.N_elderB Q47 gb370 (Nat.le_of_eq hg.symm)) hb); have n1_ := Aside0.mk (below_step Q1 hb); have n2_ := Aside0.mk (hbox); have n3_ := Aside0.mk ((Q155 : w.heap.size ≤ gb370)); have n4_ := Aside0.mk ((Q155 : w.heap.size ≤ gb370)); clear HO369; clear HB; have HO369 := n0_; have HB := n1_; have BK370 := n2_; have GW370 := n3_; have GE370 := n4_; clear n0_ n1_ n2_ n3_ n4_; clear hb hbox hg; have hcz39_0 : w38.cell? ⟨gb370, 0, none⟩ = some (.int .i64 0) := (blk_cell BK370.out 0).trans rfl; have hcz39_1 : w38.cell? ⟨gb370, 1, none⟩ = some (.int .i64 0) := (blk_cell BK370.out 1).trans rfl; have hcz39_2 : w38.cell? ⟨gb370, 2, none⟩ = some (.bool false) := (blk_cell BK370.out 2).trans rfl; have hcz39_3 : w38.cell? ⟨gb370, 3, none⟩ = some (.slice none 0 0) := (blk_cell BK370.out 3).trans rfl; have hfz39_0 := blk_frozen BK370.out 0; have hfz39_1 := blk_frozen BK370.out 1; have hfz39_2 := blk_frozen BK370.out 2; have hfz39_3 := blk_frozen BK370.out 3) | ((with_reducible refine gate_callee (f := 18) rfl ?_); refine goesL_ (some 14) rfl rfl Tryz.func18 Q0 rfl #[.agg #[.int .i64 1, .int .i64 2, .bool true, .slice Ao37 y367.length co37]] rfl Q9 ?_; (with_reducible refine (vcode_Text.calls k 1 2 true _ _ y367 t371 none _ ?side1 ?side2 ?side3 A1.out).mono ?_); (case side1 => refine (Kd.N_reads' (e := 87) (base := w.heap.size) (ok := fun k_ => (True ∧ k_ ≠ gb370)) (n := y367.length) (c := co37) ?_).2.2; exact Q126); (case side2 => exact (Kd.N_reads' HO369.out).2.1); (case side3 => exact GG.below Q32 HG.out); rintro e w40 ⟨rfl, hb⟩; refine ⟨_, rfl, ?_⟩; have n0_ := Aside0.mk (Kd.N_below Q126 hb); have n1_ := Aside0.mk (blk_below (g := gb370) (o := .cells #[.int .i64 1, .int .i64 2, .bool true, .slice Ao37 y367.length co37] 35 (0, 0)) Q66 hb); have n2_ := Aside0.mk (below_step Q32 hb); clear HO369; clear BK370; clear HB; have HO369 := n0_; have BK370 := n1_; have HB := n2_; clear n0_ n1_ n2_; (try clear hb); (try clear hb2); (try clear hk); (try clear hi); (try simp only [errW_none, errW_some]); have hcz41_0 : w40.cell? ⟨gb370, 0, none⟩ = some (.int .i64 1) := (blk_cell BK370.out 0).trans rfl; have hcz41_1 : w40.cell? ⟨gb370, 1, none⟩ = some (.int .i64 2) := (blk_cell BK370.out 1).trans rfl; have hcz41_2 : w40.cell? ⟨gb370, 2, none⟩ = some (.bool true) := (blk_cell BK370.out 2).trans rfl; have hcz41_3 : w40.cell? ⟨gb370, 3, none⟩ = some (.slice Ao37 y367.length co37) := (blk_cell BK370.out 3).trans rfl; have hfz41_0 := blk_frozen BK370.out 0; have hfz41_1 := blk_frozen BK370.out 1; have hfz41_2 := blk_frozen BK370.out 2; have hfz41_3 := blk_frozen BK370.out 3) | (go_at_call 33; (with_reducible refine (vcode_Size.calls k 1 2 true _ _ y367 t374 _ ?side1 ?side2 ?side3 A3.out).mono ?_); (case side1 => repeat (first | exact (Kd.N_reads' HO369.out).2.2 | (with_reducible refine Kd.C_alloc ?_ _) | (with_reducible refine Kd.C_drewN ?_ _) | (with_reducible refine Kd.C_drew ?_))); (case side2 => exact (Kd.N_reads' HO369.out).2.1); (case side3 => exact GG.nil _); rintro e w42 ⟨rfl, hb⟩; have n0_ := Aside0.mk (Kd.N_below Q47 hb); have n1_ := Aside0.mk (blk_below (g := gb370) (o := .cells #[.int .i64 1, .int .i64 2, .bool true, .slice Ao37 y367.length co37] 35 (0, 0)) Q67 hb); have n2_ := Aside0.mk (below_step Q32 hb); clear HO369; clear BK370; clear HB; have HO369 := n0_; have BK370 := n1_; have HB := n2_; clear n0_ n1_ n2_; (try clear hb); (try clear hb2); (try clear hk); (try clear hi)) | (go_at_call 40; (with_reducible refine (vcode_Pure.calls k 106 false _ ?side1 A5.out).mono ?_); (case side1 => exact GG.nil _); rintro e w43 ⟨rfl, hb⟩; have n0_ := Aside0.mk (Kd.N_below Q47 hb); have n1_ := Aside0.mk (blk_below (g := gb370) (o := .cells #[.int .i64 1, .int .i64 2, .bool true, .slice Ao37 y367.length co37] 35 (0, 0)) Q67 hb); have n2_ := Aside0.mk (below_step Q32 hb); clear HO369; clear BK370; clear HB; have HO369 := n0_; have BK370 := n1_; have HB := n2_; clear n0_ n1_ n2_; (try clear hb); (try clear hb2); (try clear hk); (try clear hi)))
    go_ret
    exact ⟨Q6, Q32⟩
   rw [if_neg c4] at H
   have c4b0 : (t374 == 2) = false := beq_eq_false_iff_ne.mpr c4
   have c4b1 : (t374 != 2) = true := bne_iff_ne.mpr c4
   obtain rfl := Option.some.inj H
   go_enter Tryz.func17, Tryz.ntmps17
   go_wp2_with (first | ((with_reducible refine gate_dst (N := 4) rfl ?_); refine Kd.R_lit (Kd.int .i64) _ 3 ?hg (N := 4) ?hd (xs := ([0, 0] : List Int)) (inner := [.int .i64 0, .int .i64 0]) (ok := fun _ => True) (okp := fun _ => True) ?hr ?hp (fun _ hk => hk) trivial (Below.refl _ _) (Nat.le_refl _) Q8 ?_; (case hd => rfl); (case hg => rfl); (case hr => first | (go_simp; done) | (go_simp; rfl)); (case hp => exact (Reps.one (show Kd.M (Kd.int .i64) _ _ _ 0 [.int .i64 0] from rfl) (Reps.one (show Kd.M (Kd.int .i64) _ _ _ 0 [.int .i64 0] from rfl) (Reps.none _ _)))); intro v359 w44 ho45 hb hg_ hnew_; clear hg_ hnew_; (first | rw [← Ny358.out] at ho45 | (simp only [Int.reduceToNat] at ho45; rw [← Ny358.out] at ho45)); have n0_ := Aside0.mk (Kd.R_lower ho45 (below_size Q1)); have n1_ := Aside0.mk (below_step Q1 hb); clear HB; have HO360 := n0_; have HB := n1_; clear n0_ n1_; clear hb ho45; obtain ⟨Ao46, co46, eo46⟩ := Kd.R_slice HO360.out; subst eo46) | ((with_reducible refine gate_dst (N := 6) rfl ?_); refine Kd.R_lit (Kd.int .i64) _ 3 ?hg (N := 6) ?hd (xs := ([1] : List Int)) (inner := [.int .i64 1]) (ok := fun _ => True) (okp := fun _ => True) ?hr ?hp (fun _ hk => hk) trivial (Below.refl _ _) (Nat.le_refl _) Q8 ?_; (case hd => rfl); (case hg => rfl); (case hr => first | (go_simp; done) | (go_simp; rfl)); (case hp => exact (Reps.one (show Kd.M (Kd.int .i64) _ _ _ 1 [.int .i64 1] from rfl) (Reps.none _ _))); intro v362 w47 ho48 hb hg_ hnew_; clear hg_ hnew_; (first | rw [← Ny361.out] at ho48 | (simp only [Int.reduceToNat] at ho48; rw [← Ny361.out] at ho48)); have n0_ := Aside0.mk (Kd.R_elder' Q46 (Kd.R_base ho48) hb); have n1_ := Aside0.mk (Kd.R_lower (Kd.R_new' ho48 (Kd.R_lt Q46)) (below_size Q1)); have n2_ := Aside0.mk (below_step Q1 hb); clear HO360; clear HB; have HO360 := n0_; have HO363 := n1_; have HB := n2_; clear n0_ n1_ n2_; clear hb ho48; obtain ⟨Ao49, co49, eo49⟩ := Kd.R_slice HO363.out; subst eo49) | ((with_reducible refine gate_dst (N := 8) rfl ?_); refine Kd.N_lit k84 _ 84 ?hg (N' := 8) ?hd (xs := ([(⟨106, 1, y358, 0, 0⟩ : S84), (⟨15, (-1), y361, 0, 0⟩ : S84)] : List (S84))) (inner := [.int .u8 106, .int .i64 1, .slice Ao46 y358.length co46, .int .i64 0, .int .u32 0, .int .u8 15, .int .i64 (-1), .slice Ao49 y361.length co49, .int .i64 0, .int .u32 0]) (ok := (fun _ => True)) (okp := (fun _ => True)) ?hr ?hp (fun _ hk => hk) ((show ∀ k_, w47.heap.size ≤ k_ → (fun _ => True) k_ from fun k_ hk => trivial) _ (Nat.le_refl _)) (Below.refl _ _) (Nat.le_refl _) Q8 ?_; (case hd => rfl); (case hg => rfl); (case hr => first | (go_simp; done) | (go_simp; rfl)); (case hp => exact (Reps.c5 (show Kd.FK k84 _ _ (⟨106, 1, y358, 0, 0⟩ : S84) [.int .u8 106, .int .i64 1, .slice Ao46 y358.length co46, .int .i64 0, .int .u32 0] from (k84_mkF _ _ (⟨106, 1, y358, 0, 0⟩ : S84) (Kd.R_reads' (Kd.R_mono (ok' := (fun _ => True)) (HO360.out) (fun k_ hk => trivial))).2.1 (Kd.R_F (Kd.R_mono (ok' := (fun _ => True)) (HO360.out) (fun k_ hk => trivial))))) (Reps.c5 (show Kd.FK k84 _ _ (⟨15, (-1), y361, 0, 0⟩ : S84) [.int .u8 15, .int .i64 (-1), .slice Ao49 y361.length co49, .int .i64 0, .int .u32 0] from (k84_mkF _ _ (⟨15, (-1), y361, 0, 0⟩ : S84) (Kd.R_reads' (Kd.R_mono (ok' := (fun _ => True)) (HO363.out) (fun k_ hk => trivial))).2.1 (Kd.R_F (Kd.R_mono (ok' := (fun _ => True)) (HO363.out) (fun k_ hk => trivial))))) (Reps.none _ _)))); intro v365 w50 ho51 hb hg_ hnew_; clear hg_ hnew_; (first | rw [← Ny364.out] at ho51 | (simp only [Int.reduceToNat] at ho51; rw [← Ny364.out] at ho51)); have n0_ := Aside0.mk (Kd.N_lower ho51 (below_size Q1)); have n1_ := Aside0.mk (below_step Q1 hb); clear HB; clear HO360; clear HO363; have HO366 := n0_; have HB := n1_; clear n0_ n1_; clear hb ho51; obtain ⟨Ao52, co52, eo52⟩ := Kd.N_slice HO366.out; subst eo52) | ((with_reducible refine gate_dst (N := 10) rfl ?_); refine Kd.N_lit k87 _ 87 ?hg (N' := 10) ?hd (xs := ([(⟨y364, ([] : List Int), 0⟩ : S87)] : List (S87))) (inner := [.slice Ao52 y364.length co52, .slice none 0 0, .int .i64 0]) (ok := (fun _ => True)) (okp := (fun _ => True)) ?hr ?hp (fun _ hk => hk) ((show ∀ k_, w50.heap.size ≤ k_ → (fun _ => True) k_ from fun k_ hk => trivial) _ (Nat.le_refl _)) (Below.refl _ _) (Nat.le_refl _) Q8 ?_; (case hd => rfl); (case hg => rfl); (case hr => first | (go_simp; done) | (go_simp; rfl)); (case hp => exact (Reps.c3 (show Kd.FK k87 _ _ (⟨y364, ([] : List Int), 0⟩ : S87) [.slice Ao52 y364.length co52, .slice none 0 0, .int .i64 0] from (k87_mkF _ _ (⟨y364, ([] : List Int), 0⟩ : S87) (Kd.N_reads' (Kd.N_mono (ok' := (fun _ => True)) (HO366.out) (fun k_ hk => trivial))).2.1 (Kd.N_F (Kd.N_mono (ok' := (fun _ => True)) (HO366.out) (fun k_ hk => trivial))) (Nat.le_refl _) (Kd.F_nil _ _ _))) (Reps.none _ _))); intro v368 w53 ho54 hb hg_ hnew_; clear hg_ hnew_; (first | rw [← Ny367.out] at ho54 | (simp only [Int.reduceToNat] at ho54; rw [← Ny367.out] at ho54)); have n0_ := Aside0.mk (Kd.N_lower ho54 (below_size Q1)); have n1_ := Aside0.mk (below_step Q1 hb); clear HB; clear HO366; have HO369 := n0_; have HB := n1_; clear n0_ n1_; clear hb ho54; obtain ⟨Ao55, co55, eo55⟩ := Kd.N_slice HO369.out; subst eo55) | ((with_reducible refine gate_dst (N := 1) rfl ?_); refine box_event ?hg (N := 1) ?hd (cs := #[.int .i64 0, .int .i64 0, .bool false, .slice none 0 0]) (t := 35) ?hr ?_; (case hd => rfl); (case hg => rfl); (case hr => first | (go_simp; done) | (go_simp; rfl)); intro gb370 hg w56 hbox hb; have n0_ := Aside0.mk (Kd.N_below (Kd.N_elderB Q47 gb370 (Nat.le_of_eq hg.symm)) hb); have n1_ := Aside0.mk (below_step Q1 hb); have n2_ := Aside0.mk (hbox); have n3_ := Aside0.mk ((Q155 : w.heap.size ≤ gb370)); have n4_ := Aside0.mk ((Q155 : w.heap.size ≤ gb370)); clear HO369; clear HB; have HO369 := n0_; have HB := n1_; have BK370 := n2_; have GW370 := n3_; have GE370 := n4_; clear n0_ n1_ n2_ n3_ n4_; clear hb hbox hg; have hcz57_0 : w56.cell? ⟨gb370, 0, none⟩ = some (.int .i64 0) := (blk_cell BK370.out 0).trans rfl; have hcz57_1 : w56.cell? ⟨gb370, 1, none⟩ = some (.int .i64 0) := (blk_cell BK370.out 1).trans rfl; have hcz57_2 : w56.cell? ⟨gb370, 2, none⟩ = some (.bool false) := (blk_cell BK370.out 2).trans rfl; have hcz57_3 : w56.cell? ⟨gb370, 3, none⟩ = some (.slice none 0 0) := (blk_cell BK370.out 3).trans rfl; have hfz57_0 := blk_frozen BK370.out 0; have hfz57_1 := blk_frozen BK370.out 1; have hfz57_2 := blk_frozen BK370.out 2; have hfz57_3 := blk_frozen BK370.out 3) | ((with_reducible refine gate_callee (f := 18) rfl ?_); refine goesL_ (some 14) rfl rfl Tryz.func18 Q0 rfl #[.agg #[.int .i64 1, .int .i64 2, .bool true, .slice Ao55 y367.length co55]] rfl Q9 ?_; (with_reducible refine (vcode_Text.calls k 1 2 true _ _ y367 t371 none _ ?side1 ?side2 ?side3 A1.out).mono ?_); (case side1 => refine (Kd.N_reads' (e := 87) (base := w.heap.size) (ok := fun k_ => (True ∧ k_ ≠ gb370)) (n := y367.length) (c := co55) ?_).2.2; exact Q127); (case side2 => exact (Kd.N_reads' HO369.out).2.1); (case side3 => exact GG.below Q32 HG.out); rintro e w58 ⟨rfl, hb⟩; refine ⟨_, rfl, ?_⟩; have n0_ := Aside0.mk (Kd.N_below Q127 hb); have n1_ := Aside0.mk (blk_below (g := gb370) (o := .cells #[.int .i64 1, .int .i64 2, .bool true, .slice Ao55 y367.length co55] 35 (0, 0)) Q66 hb); have n2_ := Aside0.mk (below_step Q32 hb); clear HO369; clear BK370; clear HB; have HO369 := n0_; have BK370 := n1_; have HB := n2_; clear n0_ n1_ n2_; (try clear hb); (try clear hb2); (try clear hk); (try clear hi); (try simp only [errW_none, errW_some]); have hcz59_0 : w58.cell? ⟨gb370, 0, none⟩ = some (.int .i64 1) := (blk_cell BK370.out 0).trans rfl; have hcz59_1 : w58.cell? ⟨gb370, 1, none⟩ = some (.int .i64 2) := (blk_cell BK370.out 1).trans rfl; have hcz59_2 : w58.cell? ⟨gb370, 2, none⟩ = some (.bool true) := (blk_cell BK370.out 2).trans rfl; have hcz59_3 : w58.cell? ⟨gb370, 3, none⟩ = some (.slice Ao55 y367.length co55) := (blk_cell BK370.out 3).trans rfl; have hfz59_0 := blk_frozen BK370.out 0; have hfz59_1 := blk_frozen BK370.out 1; have hfz59_2 := blk_frozen BK370.out 2; have hfz59_3 := blk_frozen BK370.out 3) | (go_at_call 33; (with_reducible refine (vcode_Size.calls k 1 2 true _ _ y367 t374 _ ?side1 ?side2 ?side3 A3.out).mono ?_); (case side1 => repeat (first | exact (Kd.N_reads' HO369.out).2.2 | (with_reducible refine Kd.C_alloc ?_ _) | (with_reducible refine Kd.C_drewN ?_ _) | (with_reducible refine Kd.C_drew ?_))); (case side2 => exact (Kd.N_reads' HO369.out).2.1); (case side3 => exact GG.nil _); rintro e w60 ⟨rfl, hb⟩; have n0_ := Aside0.mk (Kd.N_below Q47 hb); have n1_ := Aside0.mk (blk_below (g := gb370) (o := .cells #[.int .i64 1, .int .i64 2, .bool true, .slice Ao55 y367.length co55] 35 (0, 0)) Q67 hb); have n2_ := Aside0.mk (below_step Q32 hb); clear HO369; clear BK370; clear HB; have HO369 := n0_; have BK370 := n1_; have HB := n2_; clear n0_ n1_ n2_; (try clear hb); (try clear hb2); (try clear hk); (try clear hi)))
   go_ret
   exact ⟨Q6, Q32⟩
  rw [if_neg c2] at H
  have c2b0 : (t371.toList == ([114, 101, 103, 115, 32, 50, 32, 112, 97, 114, 97, 109, 115, 32, 49, 32, 114, 101, 115, 117, 108, 116, 10, 98, 108, 111, 99, 107, 32, 48, 32, 100, 101, 112, 116, 104, 32, 48, 10, 32, 32, 114, 49, 32, 61, 32, 105, 51, 50, 46, 97, 100, 100, 32, 114, 48, 32, 114, 48, 10, 32, 32, 114, 101, 116, 117, 114, 110, 32, 114, 49, 10] : List UInt8)) = false := beq_eq_false_iff_ne.mpr c2
  have c2b1 : (t371.toList != ([114, 101, 103, 115, 32, 50, 32, 112, 97, 114, 97, 109, 115, 32, 49, 32, 114, 101, 115, 117, 108, 116, 10, 98, 108, 111, 99, 107, 32, 48, 32, 100, 101, 112, 116, 104, 32, 48, 10, 32, 32, 114, 49, 32, 61, 32, 105, 51, 50, 46, 97, 100, 100, 32, 114, 48, 32, 114, 48, 10, 32, 32, 114, 101, 116, 117, 114, 110, 32, 114, 49, 10] : List UInt8)) = true := bne_iff_ne.mpr c2
  obtain rfl := Option.some.inj H
  go_enter Tryz.func17, Tryz.ntmps17
  go_wp2_with (first | ((with_reducible refine gate_dst (N := 4) rfl ?_); refine Kd.R_lit (Kd.int .i64) _ 3 ?hg (N := 4) ?hd (xs := ([0, 0] : List Int)) (inner := [.int .i64 0, .int .i64 0]) (ok := fun _ => True) (okp := fun _ => True) ?hr ?hp (fun _ hk => hk) trivial (Below.refl _ _) (Nat.le_refl _) Q8 ?_; (case hd => rfl); (case hg => rfl); (case hr => first | (go_simp; done) | (go_simp; rfl)); (case hp => exact (Reps.one (show Kd.M (Kd.int .i64) _ _ _ 0 [.int .i64 0] from rfl) (Reps.one (show Kd.M (Kd.int .i64) _ _ _ 0 [.int .i64 0] from rfl) (Reps.none _ _)))); intro v359 w61 ho62 hb hg_ hnew_; clear hg_ hnew_; (first | rw [← Ny358.out] at ho62 | (simp only [Int.reduceToNat] at ho62; rw [← Ny358.out] at ho62)); have n0_ := Aside0.mk (Kd.R_lower ho62 (below_size Q1)); have n1_ := Aside0.mk (below_step Q1 hb); clear HB; have HO360 := n0_; have HB := n1_; clear n0_ n1_; clear hb ho62; obtain ⟨Ao63, co63, eo63⟩ := Kd.R_slice HO360.out; subst eo63) | ((with_reducible refine gate_dst (N := 6) rfl ?_); refine Kd.R_lit (Kd.int .i64) _ 3 ?hg (N := 6) ?hd (xs := ([1] : List Int)) (inner := [.int .i64 1]) (ok := fun _ => True) (okp := fun _ => True) ?hr ?hp (fun _ hk => hk) trivial (Below.refl _ _) (Nat.le_refl _) Q8 ?_; (case hd => rfl); (case hg => rfl); (case hr => first | (go_simp; done) | (go_simp; rfl)); (case hp => exact (Reps.one (show Kd.M (Kd.int .i64) _ _ _ 1 [.int .i64 1] from rfl) (Reps.none _ _))); intro v362 w64 ho65 hb hg_ hnew_; clear hg_ hnew_; (first | rw [← Ny361.out] at ho65 | (simp only [Int.reduceToNat] at ho65; rw [← Ny361.out] at ho65)); have n0_ := Aside0.mk (Kd.R_elder' Q46 (Kd.R_base ho65) hb); have n1_ := Aside0.mk (Kd.R_lower (Kd.R_new' ho65 (Kd.R_lt Q46)) (below_size Q1)); have n2_ := Aside0.mk (below_step Q1 hb); clear HO360; clear HB; have HO360 := n0_; have HO363 := n1_; have HB := n2_; clear n0_ n1_ n2_; clear hb ho65; obtain ⟨Ao66, co66, eo66⟩ := Kd.R_slice HO363.out; subst eo66) | ((with_reducible refine gate_dst (N := 8) rfl ?_); refine Kd.N_lit k84 _ 84 ?hg (N' := 8) ?hd (xs := ([(⟨106, 1, y358, 0, 0⟩ : S84), (⟨15, (-1), y361, 0, 0⟩ : S84)] : List (S84))) (inner := [.int .u8 106, .int .i64 1, .slice Ao63 y358.length co63, .int .i64 0, .int .u32 0, .int .u8 15, .int .i64 (-1), .slice Ao66 y361.length co66, .int .i64 0, .int .u32 0]) (ok := (fun _ => True)) (okp := (fun _ => True)) ?hr ?hp (fun _ hk => hk) ((show ∀ k_, w64.heap.size ≤ k_ → (fun _ => True) k_ from fun k_ hk => trivial) _ (Nat.le_refl _)) (Below.refl _ _) (Nat.le_refl _) Q8 ?_; (case hd => rfl); (case hg => rfl); (case hr => first | (go_simp; done) | (go_simp; rfl)); (case hp => exact (Reps.c5 (show Kd.FK k84 _ _ (⟨106, 1, y358, 0, 0⟩ : S84) [.int .u8 106, .int .i64 1, .slice Ao63 y358.length co63, .int .i64 0, .int .u32 0] from (k84_mkF _ _ (⟨106, 1, y358, 0, 0⟩ : S84) (Kd.R_reads' (Kd.R_mono (ok' := (fun _ => True)) (HO360.out) (fun k_ hk => trivial))).2.1 (Kd.R_F (Kd.R_mono (ok' := (fun _ => True)) (HO360.out) (fun k_ hk => trivial))))) (Reps.c5 (show Kd.FK k84 _ _ (⟨15, (-1), y361, 0, 0⟩ : S84) [.int .u8 15, .int .i64 (-1), .slice Ao66 y361.length co66, .int .i64 0, .int .u32 0] from (k84_mkF _ _ (⟨15, (-1), y361, 0, 0⟩ : S84) (Kd.R_reads' (Kd.R_mono (ok' := (fun _ => True)) (HO363.out) (fun k_ hk => trivial))).2.1 (Kd.R_F (Kd.R_mono (ok' := (fun _ => True)) (HO363.out) (fun k_ hk => trivial))))) (Reps.none _ _)))); intro v365 w67 ho68 hb hg_ hnew_; clear hg_ hnew_; (first | rw [← Ny364.out] at ho68 | (simp only [Int.reduceToNat] at ho68; rw [← Ny364.out] at ho68)); have n0_ := Aside0.mk (Kd.N_lower ho68 (below_size Q1)); have n1_ := Aside0.mk (below_step Q1 hb); clear HB; clear HO360; clear HO363; have HO366 := n0_; have HB := n1_; clear n0_ n1_; clear hb ho68; obtain ⟨Ao69, co69, eo69⟩ := Kd.N_slice HO366.out; subst eo69) | ((with_reducible refine gate_dst (N := 10) rfl ?_); refine Kd.N_lit k87 _ 87 ?hg (N' := 10) ?hd (xs := ([(⟨y364, ([] : List Int), 0⟩ : S87)] : List (S87))) (inner := [.slice Ao69 y364.length co69, .slice none 0 0, .int .i64 0]) (ok := (fun _ => True)) (okp := (fun _ => True)) ?hr ?hp (fun _ hk => hk) ((show ∀ k_, w67.heap.size ≤ k_ → (fun _ => True) k_ from fun k_ hk => trivial) _ (Nat.le_refl _)) (Below.refl _ _) (Nat.le_refl _) Q8 ?_; (case hd => rfl); (case hg => rfl); (case hr => first | (go_simp; done) | (go_simp; rfl)); (case hp => exact (Reps.c3 (show Kd.FK k87 _ _ (⟨y364, ([] : List Int), 0⟩ : S87) [.slice Ao69 y364.length co69, .slice none 0 0, .int .i64 0] from (k87_mkF _ _ (⟨y364, ([] : List Int), 0⟩ : S87) (Kd.N_reads' (Kd.N_mono (ok' := (fun _ => True)) (HO366.out) (fun k_ hk => trivial))).2.1 (Kd.N_F (Kd.N_mono (ok' := (fun _ => True)) (HO366.out) (fun k_ hk => trivial))) (Nat.le_refl _) (Kd.F_nil _ _ _))) (Reps.none _ _))); intro v368 w70 ho71 hb hg_ hnew_; clear hg_ hnew_; (first | rw [← Ny367.out] at ho71 | (simp only [Int.reduceToNat] at ho71; rw [← Ny367.out] at ho71)); have n0_ := Aside0.mk (Kd.N_lower ho71 (below_size Q1)); have n1_ := Aside0.mk (below_step Q1 hb); clear HB; clear HO366; have HO369 := n0_; have HB := n1_; clear n0_ n1_; clear hb ho71; obtain ⟨Ao72, co72, eo72⟩ := Kd.N_slice HO369.out; subst eo72) | ((with_reducible refine gate_dst (N := 1) rfl ?_); refine box_event ?hg (N := 1) ?hd (cs := #[.int .i64 0, .int .i64 0, .bool false, .slice none 0 0]) (t := 35) ?hr ?_; (case hd => rfl); (case hg => rfl); (case hr => first | (go_simp; done) | (go_simp; rfl)); intro gb370 hg w73 hbox hb; have n0_ := Aside0.mk (Kd.N_below (Kd.N_elderB Q47 gb370 (Nat.le_of_eq hg.symm)) hb); have n1_ := Aside0.mk (below_step Q1 hb); have n2_ := Aside0.mk (hbox); have n3_ := Aside0.mk ((Q155 : w.heap.size ≤ gb370)); have n4_ := Aside0.mk ((Q155 : w.heap.size ≤ gb370)); clear HO369; clear HB; have HO369 := n0_; have HB := n1_; have BK370 := n2_; have GW370 := n3_; have GE370 := n4_; clear n0_ n1_ n2_ n3_ n4_; clear hb hbox hg; have hcz74_0 : w73.cell? ⟨gb370, 0, none⟩ = some (.int .i64 0) := (blk_cell BK370.out 0).trans rfl; have hcz74_1 : w73.cell? ⟨gb370, 1, none⟩ = some (.int .i64 0) := (blk_cell BK370.out 1).trans rfl; have hcz74_2 : w73.cell? ⟨gb370, 2, none⟩ = some (.bool false) := (blk_cell BK370.out 2).trans rfl; have hcz74_3 : w73.cell? ⟨gb370, 3, none⟩ = some (.slice none 0 0) := (blk_cell BK370.out 3).trans rfl; have hfz74_0 := blk_frozen BK370.out 0; have hfz74_1 := blk_frozen BK370.out 1; have hfz74_2 := blk_frozen BK370.out 2; have hfz74_3 := blk_frozen BK370.out 3) | ((with_reducible refine gate_callee (f := 18) rfl ?_); refine goesL_ (some 14) rfl rfl Tryz.func18 Q0 rfl #[.agg #[.int .i64 1, .int .i64 2, .bool true, .slice Ao72 y367.length co72]] rfl Q9 ?_; (with_reducible refine (vcode_Text.calls k 1 2 true _ _ y367 t371 none _ ?side1 ?side2 ?side3 A1.out).mono ?_); (case side1 => refine (Kd.N_reads' (e := 87) (base := w.heap.size) (ok := fun k_ => (True ∧ k_ ≠ gb370)) (n := y367.length) (c := co72) ?_).2.2; exact Q128); (case side2 => exact (Kd.N_reads' HO369.out).2.1); (case side3 => exact GG.below Q32 HG.out); rintro e w75 ⟨rfl, hb⟩; refine ⟨_, rfl, ?_⟩; have n0_ := Aside0.mk (Kd.N_below Q128 hb); have n1_ := Aside0.mk (blk_below (g := gb370) (o := .cells #[.int .i64 1, .int .i64 2, .bool true, .slice Ao72 y367.length co72] 35 (0, 0)) Q66 hb); have n2_ := Aside0.mk (below_step Q32 hb); clear HO369; clear BK370; clear HB; have HO369 := n0_; have BK370 := n1_; have HB := n2_; clear n0_ n1_ n2_; (try clear hb); (try clear hb2); (try clear hk); (try clear hi); (try simp only [errW_none, errW_some])))
  go_ret
  exact ⟨Q6, Q32⟩
 have H1 : (some false) = some r := by rw [if_neg (show ¬ (some q373).isNone = true by simp)] at H; exact H
 clear H
 have H := H1
 clear H1
 try simp only [errW_none, errW_some]
 obtain rfl := Option.some.inj H
 go_enter Tryz.func17, Tryz.ntmps17
 go_wp2_with (first | ((with_reducible refine gate_dst (N := 4) rfl ?_); refine Kd.R_lit (Kd.int .i64) _ 3 ?hg (N := 4) ?hd (xs := ([0, 0] : List Int)) (inner := [.int .i64 0, .int .i64 0]) (ok := fun _ => True) (okp := fun _ => True) ?hr ?hp (fun _ hk => hk) trivial (Below.refl _ _) (Nat.le_refl _) Q8 ?_; (case hd => rfl); (case hg => rfl); (case hr => first | (go_simp; done) | (go_simp; rfl)); (case hp => exact (Reps.one (show Kd.M (Kd.int .i64) _ _ _ 0 [.int .i64 0] from rfl) (Reps.one (show Kd.M (Kd.int .i64) _ _ _ 0 [.int .i64 0] from rfl) (Reps.none _ _)))); intro v359 w76 ho77 hb hg_ hnew_; clear hg_ hnew_; (first | rw [← Ny358.out] at ho77 | (simp only [Int.reduceToNat] at ho77; rw [← Ny358.out] at ho77)); have n0_ := Aside0.mk (Kd.R_lower ho77 (below_size Q1)); have n1_ := Aside0.mk (below_step Q1 hb); clear HB; have HO360 := n0_; have HB := n1_; clear n0_ n1_; clear hb ho77; obtain ⟨Ao78, co78, eo78⟩ := Kd.R_slice HO360.out; subst eo78) | ((with_reducible refine gate_dst (N := 6) rfl ?_); refine Kd.R_lit (Kd.int .i64) _ 3 ?hg (N := 6) ?hd (xs := ([1] : List Int)) (inner := [.int .i64 1]) (ok := fun _ => True) (okp := fun _ => True) ?hr ?hp (fun _ hk => hk) trivial (Below.refl _ _) (Nat.le_refl _) Q8 ?_; (case hd => rfl); (case hg => rfl); (case hr => first | (go_simp; done) | (go_simp; rfl)); (case hp => exact (Reps.one (show Kd.M (Kd.int .i64) _ _ _ 1 [.int .i64 1] from rfl) (Reps.none _ _))); intro v362 w79 ho80 hb hg_ hnew_; clear hg_ hnew_; (first | rw [← Ny361.out] at ho80 | (simp only [Int.reduceToNat] at ho80; rw [← Ny361.out] at ho80)); have n0_ := Aside0.mk (Kd.R_elder' Q46 (Kd.R_base ho80) hb); have n1_ := Aside0.mk (Kd.R_lower (Kd.R_new' ho80 (Kd.R_lt Q46)) (below_size Q1)); have n2_ := Aside0.mk (below_step Q1 hb); clear HO360; clear HB; have HO360 := n0_; have HO363 := n1_; have HB := n2_; clear n0_ n1_ n2_; clear hb ho80; obtain ⟨Ao81, co81, eo81⟩ := Kd.R_slice HO363.out; subst eo81) | ((with_reducible refine gate_dst (N := 8) rfl ?_); refine Kd.N_lit k84 _ 84 ?hg (N' := 8) ?hd (xs := ([(⟨106, 1, y358, 0, 0⟩ : S84), (⟨15, (-1), y361, 0, 0⟩ : S84)] : List (S84))) (inner := [.int .u8 106, .int .i64 1, .slice Ao78 y358.length co78, .int .i64 0, .int .u32 0, .int .u8 15, .int .i64 (-1), .slice Ao81 y361.length co81, .int .i64 0, .int .u32 0]) (ok := (fun _ => True)) (okp := (fun _ => True)) ?hr ?hp (fun _ hk => hk) ((show ∀ k_, w79.heap.size ≤ k_ → (fun _ => True) k_ from fun k_ hk => trivial) _ (Nat.le_refl _)) (Below.refl _ _) (Nat.le_refl _) Q8 ?_; (case hd => rfl); (case hg => rfl); (case hr => first | (go_simp; done) | (go_simp; rfl)); (case hp => exact (Reps.c5 (show Kd.FK k84 _ _ (⟨106, 1, y358, 0, 0⟩ : S84) [.int .u8 106, .int .i64 1, .slice Ao78 y358.length co78, .int .i64 0, .int .u32 0] from (k84_mkF _ _ (⟨106, 1, y358, 0, 0⟩ : S84) (Kd.R_reads' (Kd.R_mono (ok' := (fun _ => True)) (HO360.out) (fun k_ hk => trivial))).2.1 (Kd.R_F (Kd.R_mono (ok' := (fun _ => True)) (HO360.out) (fun k_ hk => trivial))))) (Reps.c5 (show Kd.FK k84 _ _ (⟨15, (-1), y361, 0, 0⟩ : S84) [.int .u8 15, .int .i64 (-1), .slice Ao81 y361.length co81, .int .i64 0, .int .u32 0] from (k84_mkF _ _ (⟨15, (-1), y361, 0, 0⟩ : S84) (Kd.R_reads' (Kd.R_mono (ok' := (fun _ => True)) (HO363.out) (fun k_ hk => trivial))).2.1 (Kd.R_F (Kd.R_mono (ok' := (fun _ => True)) (HO363.out) (fun k_ hk => trivial))))) (Reps.none _ _)))); intro v365 w82 ho83 hb hg_ hnew_; clear hg_ hnew_; (first | rw [← Ny364.out] at ho83 | (simp only [Int.reduceToNat] at ho83; rw [← Ny364.out] at ho83)); have n0_ := Aside0.mk (Kd.N_lower ho83 (below_size Q1)); have n1_ := Aside0.mk (below_step Q1 hb); clear HB; clear HO360; clear HO363; have HO366 := n0_; have HB := n1_; clear n0_ n1_; clear hb ho83; obtain ⟨Ao84, co84, eo84⟩ := Kd.N_slice HO366.out; subst eo84) | ((with_reducible refine gate_dst (N := 10) rfl ?_); refine Kd.N_lit k87 _ 87 ?hg (N' := 10) ?hd (xs := ([(⟨y364, ([] : List Int), 0⟩ : S87)] : List (S87))) (inner := [.slice Ao84 y364.length co84, .slice none 0 0, .int .i64 0]) (ok := (fun _ => True)) (okp := (fun _ => True)) ?hr ?hp (fun _ hk => hk) ((show ∀ k_, w82.heap.size ≤ k_ → (fun _ => True) k_ from fun k_ hk => trivial) _ (Nat.le_refl _)) (Below.refl _ _) (Nat.le_refl _) Q8 ?_; (case hd => rfl); (case hg => rfl); (case hr => first | (go_simp; done) | (go_simp; rfl)); (case hp => exact (Reps.c3 (show Kd.FK k87 _ _ (⟨y364, ([] : List Int), 0⟩ : S87) [.slice Ao84 y364.length co84, .slice none 0 0, .int .i64 0] from (k87_mkF _ _ (⟨y364, ([] : List Int), 0⟩ : S87) (Kd.N_reads' (Kd.N_mono (ok' := (fun _ => True)) (HO366.out) (fun k_ hk => trivial))).2.1 (Kd.N_F (Kd.N_mono (ok' := (fun _ => True)) (HO366.out) (fun k_ hk => trivial))) (Nat.le_refl _) (Kd.F_nil _ _ _))) (Reps.none _ _))); intro v368 w85 ho86 hb hg_ hnew_; clear hg_ hnew_; (first | rw [← Ny367.out] at ho86 | (simp only [Int.reduceToNat] at ho86; rw [← Ny367.out] at ho86)); have n0_ := Aside0.mk (Kd.N_lower ho86 (below_size Q1)); have n1_ := Aside0.mk (below_step Q1 hb); clear HB; clear HO366; have HO369 := n0_; have HB := n1_; clear n0_ n1_; clear hb ho86; obtain ⟨Ao87, co87, eo87⟩ := Kd.N_slice HO369.out; subst eo87) | ((with_reducible refine gate_dst (N := 1) rfl ?_); refine box_event ?hg (N := 1) ?hd (cs := #[.int .i64 0, .int .i64 0, .bool false, .slice none 0 0]) (t := 35) ?hr ?_; (case hd => rfl); (case hg => rfl); (case hr => first | (go_simp; done) | (go_simp; rfl)); intro gb370 hg w88 hbox hb; have n0_ := Aside0.mk (Kd.N_below (Kd.N_elderB Q47 gb370 (Nat.le_of_eq hg.symm)) hb); have n1_ := Aside0.mk (below_step Q1 hb); have n2_ := Aside0.mk (hbox); have n3_ := Aside0.mk ((Q155 : w.heap.size ≤ gb370)); have n4_ := Aside0.mk ((Q155 : w.heap.size ≤ gb370)); clear HO369; clear HB; have HO369 := n0_; have HB := n1_; have BK370 := n2_; have GW370 := n3_; have GE370 := n4_; clear n0_ n1_ n2_ n3_ n4_; clear hb hbox hg; have hcz89_0 : w88.cell? ⟨gb370, 0, none⟩ = some (.int .i64 0) := (blk_cell BK370.out 0).trans rfl; have hcz89_1 : w88.cell? ⟨gb370, 1, none⟩ = some (.int .i64 0) := (blk_cell BK370.out 1).trans rfl; have hcz89_2 : w88.cell? ⟨gb370, 2, none⟩ = some (.bool false) := (blk_cell BK370.out 2).trans rfl; have hcz89_3 : w88.cell? ⟨gb370, 3, none⟩ = some (.slice none 0 0) := (blk_cell BK370.out 3).trans rfl; have hfz89_0 := blk_frozen BK370.out 0; have hfz89_1 := blk_frozen BK370.out 1; have hfz89_2 := blk_frozen BK370.out 2; have hfz89_3 := blk_frozen BK370.out 3) | ((with_reducible refine gate_callee (f := 18) rfl ?_); refine goesL_ (some 14) rfl rfl Tryz.func18 Q0 rfl #[.agg #[.int .i64 1, .int .i64 2, .bool true, .slice Ao87 y367.length co87]] rfl Q9 ?_; (with_reducible refine (vcode_Text.calls k 1 2 true _ _ y367 t371 (some q373) _ ?side1 ?side2 ?side3 A1.out).mono ?_); (case side1 => refine (Kd.N_reads' (e := 87) (base := w.heap.size) (ok := fun k_ => (True ∧ k_ ≠ gb370)) (n := y367.length) (c := co87) ?_).2.2; exact Q129); (case side2 => exact (Kd.N_reads' HO369.out).2.1); (case side3 => exact GG.below Q32 HG.out); rintro e w90 ⟨rfl, hb⟩; refine ⟨_, rfl, ?_⟩; have n0_ := Aside0.mk (Kd.N_below Q129 hb); have n1_ := Aside0.mk (blk_below (g := gb370) (o := .cells #[.int .i64 1, .int .i64 2, .bool true, .slice Ao87 y367.length co87] 35 (0, 0)) Q66 hb); have n2_ := Aside0.mk (below_step Q32 hb); clear HO369; clear BK370; clear HB; have HO369 := n0_; have BK370 := n1_; have HB := n2_; clear n0_ n1_ n2_; (try clear hb); (try clear hb2); (try clear hk); (try clear hi); (try simp only [errW_none, errW_some])))
 go_ret
 exact ⟨Q6, Q32⟩
end Go.Proofs.YthgkeehpoilgaaaGreatDoor.Hw
end

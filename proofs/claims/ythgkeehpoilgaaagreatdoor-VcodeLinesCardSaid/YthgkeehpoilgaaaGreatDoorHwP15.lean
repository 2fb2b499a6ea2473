import Derived.Lib.ItoaLen
import Derived.DataShut
import Derived.Test.YthgkeehpoilgaaaGreatDoorHwP7
import Derived.Test.YthgkeehpoilgaaaGreatDoorHwP11
import Derived.Test.YthgkeehpoilgaaaGreatDoorHwP12
import Derived.Test.YthgkeehpoilgaaaGreatDoorHwP14
section
namespace Go.Proofs.YthgkeehpoilgaaaGreatDoor.Pure
open Go.RowKit Go.Proofs.YthgkeehpoilgaaaGreatDoor.Hw Go.Proofs.YthgkeehpoilgaaaGreatDoorW.PrintWords Go.Proofs.YthgkeehpoilgaaaGreatDoorW.PrintLast Go.Proofs.YthgkeehpoilgaaaGreatDoorW.PrintMore
def endsB (op : Int) : Bool := if op = 193 then true else if op = 194 then true else if op = 195 then true else if op = 15 then true else op == 0
theorem endsR (op : Int) : mandrelref11_Ends.f op = some (endsB op) := by unfold mandrelref11_Ends.f endsB; simp only [apply_ite (some : Bool → Option Bool)]
theorem endsV (op : Int) : vcode_Ends.f op = some (endsB op) := by unfold vcode_Ends.f endsB; simp only [apply_ite (some : Bool → Option Bool)]
def followsB (op n : Int) : Bool := if op = 193 then n == 1 else if op = 194 then n == 2 else if op = 195 then (if n ≥ 1 then decide (n ≤ 257) else false) else n == 0
theorem followsV (op n : Int) : vcode_follows.f op n = some (followsB op n) := by unfold vcode_follows.f followsB; simp only [apply_ite (some : Bool → Option Bool)]
def InsAt (r : Int) (b : Bool) (f0 : List S83) (j : Nat) : Prop := InsGood r b (rd_T83 f0 (j : Int)) ∧ endsB (rd_T83 f0 (j : Int)).f0 = decide (j + 1 = f0.length)
structure BlkGood (r : Int) (b : Bool) (nb : Nat) (x : S80) : Prop where
  some_ : x.f0.length ≠ 0
  deep : 0 ≤ x.f2 ∧ x.f2 ≤ 64
  ins : ∀ j, j < x.f0.length → InsAt r b x.f0 j
  next : (x.f1.all fun y => decide (0 ≤ y) && decide (y < (nb : Int))) = true
  fol : followsB (rd_T83 x.f0 ((x.f0.length - 1 : Nat) : Int)).f0 (x.f1.length : Int) = true
theorem last_eq {n : Nat} (h0 : n ≠ 0) (hm : n ≤ maxLen) : wrap64 ((n : Int) - 1) = ((n - 1 : Nat) : Int) := by
  unfold maxLen at hm
  rw [w64 _ (by omega) (by omega)]
  omega
theorem may_l2 (p r : Int) (b : Bool) (l : List S80) (i : Nat) (f0 : List S83) (f1 : List Int) (f2 : Int) (hi : i < l.length) (hlm : l.length ≤ maxLen) (h0 : f0.length ≠ 0) (hm0 : f0.length ≤ maxLen) (hm1 : f1.length ≤ maxLen)
    (hF : ∃ s tk gv me tk' le gv' fr is, OpF (rd_T83 f0 ((f0.length - 1 : Nat) : Int)).f0 s tk gv me tk' le gv' fr is) (R : Prop)
    (H : ∃ v, Ev (fun k => mandrelref11_May.l0 k ((i + 1 : Nat) : Int) p r b l) v ∧ (v = true → R)) :
    ∀ (d m : Nat), m + d = f1.length → ∃ v, Ev (fun k => mandrelref11_May.l2 k (i : Int) (m : Int) p r b l f0 f1 f2) v ∧
      (v = true → ((f1.drop m).all fun y => decide (0 ≤ y) && decide (y < (l.length : Int))) = true ∧ followsB (rd_T83 f0 ((f0.length - 1 : Nat) : Int)).f0 (f1.length : Int) = true ∧ R) := by
  have hlm' := hlm
  have hm0' := hm0
  have hm1' := hm1
  unfold maxLen at hlm' hm0' hm1'
  intro d
  induction d with
  | zero =>
    intro m hm
    rw [List.drop_eq_nil_of_le (by omega)]
    obtain ⟨s, tk, gv, me, tk', le, gv', fr, is, F⟩ := hF
    obtain ⟨v, hv, hvR⟩ := H
    have go : ∀ (c : Prop) [Decidable c], (c → followsB (rd_T83 f0 ((f0.length - 1 : Nat) : Int)).f0 (f1.length : Int) = true) → ∃ v, Ev (fun k => if c then mandrelref11_May.l0 k ((i + 1 : Nat) : Int) p r b l else some false) v ∧
        (v = true → (([] : List Int).all fun y => decide (0 ≤ y) && decide (y < (l.length : Int))) = true ∧ followsB (rd_T83 f0 ((f0.length - 1 : Nat) : Int)).f0 (f1.length : Int) = true ∧ R) := by
      intro c _ hc
      by_cases h : c
      · exact ⟨v, Ev.congr (fun k => if_pos h) hv, fun q => ⟨rfl, hc h, hvR q⟩⟩
      · exact ⟨false, Ev.congr (f := fun _ => some false) (fun k => if_neg h) (Ev.now _), fun q => by cases q⟩
    have big : ∃ v, Ev (fun k => if s.toList = tJUMP then (if (f1.length : Int) = 1 then mandrelref11_May.l0 k ((i + 1 : Nat) : Int) p r b l else some false) else (if s.toList = tBRANCH then (if (f1.length : Int) = 2 then mandrelref11_May.l0 k ((i + 1 : Nat) : Int) p r b l else some false) else (if s.toList = tTABLE then (if (f1.length : Int) < 1 then some false else (if (f1.length : Int) > 257 then some false else mandrelref11_May.l0 k ((i + 1 : Nat) : Int) p r b l)) else (if (f1.length : Int) = 0 then mandrelref11_May.l0 k ((i + 1 : Nat) : Int) p r b l else some false)))) v ∧
        (v = true → (([] : List Int).all fun y => decide (0 ≤ y) && decide (y < (l.length : Int))) = true ∧ followsB (rd_T83 f0 ((f0.length - 1 : Nat) : Int)).f0 (f1.length : Int) = true ∧ R) := by
      by_cases c1 : s.toList = tJUMP
      · have o := F.jump.1 c1
        obtain ⟨v, h1, h2⟩ := go ((f1.length : Int) = 1) (fun h => by unfold followsB; rw [if_pos o, h]; rfl)
        exact ⟨v, Ev.congr (fun k => if_pos c1) h1, h2⟩
      · have o1 := fun q => c1 (F.jump.2 q)
        by_cases c2 : s.toList = tBRANCH
        · have o := F.branch.1 c2
          obtain ⟨v, h1, h2⟩ := go ((f1.length : Int) = 2) (fun h => by unfold followsB; rw [if_neg o1, if_pos o, h]; rfl)
          exact ⟨v, Ev.congr (fun k => (if_neg c1).trans (if_pos c2)) h1, h2⟩
        · have o2 := fun q => c2 (F.branch.2 q)
          by_cases c3 : s.toList = tTABLE
          · have o := F.table.1 c3
            by_cases d1 : (f1.length : Int) < 1
            · exact ⟨false, Ev.congr (f := fun _ => some false) (fun k => (if_neg c1).trans ((if_neg c2).trans ((if_pos c3).trans (if_pos d1)))) (Ev.now _), fun q => by cases q⟩
            · by_cases d2 : (f1.length : Int) > 257
              · exact ⟨false, Ev.congr (f := fun _ => some false) (fun k => (if_neg c1).trans ((if_neg c2).trans ((if_pos c3).trans ((if_neg d1).trans (if_pos d2))))) (Ev.now _), fun q => by cases q⟩
              · exact ⟨v, Ev.congr (fun k => (if_neg c1).trans ((if_neg c2).trans ((if_pos c3).trans ((if_neg d1).trans (if_neg d2))))) hv, fun q => ⟨rfl, by unfold followsB; rw [if_neg o1, if_neg o2, if_pos o, if_pos (by omega)]; exact decide_eq_true (by omega), hvR q⟩⟩
          · have o3 := fun q => c3 (F.table.2 q)
            obtain ⟨v, h1, h2⟩ := go ((f1.length : Int) = 0) (fun h => by unfold followsB; rw [if_neg o1, if_neg o2, if_neg o3, h]; rfl)
            exact ⟨v, Ev.congr (fun k => (if_neg c1).trans ((if_neg c2).trans (if_neg c3))) h1, h2⟩
    obtain ⟨v', h1, h2⟩ := big
    refine ⟨v', Ev.step (f := fun k => (mandrelref11_Name.f k (rd_T83 f0 ((f0.length - 1 : Nat) : Int)).f0).bind fun t => if t.toList = tJUMP then (if (f1.length : Int) = 1 then mandrelref11_May.l0 k ((i + 1 : Nat) : Int) p r b l else some false) else (if t.toList = tBRANCH then (if (f1.length : Int) = 2 then mandrelref11_May.l0 k ((i + 1 : Nat) : Int) p r b l else some false) else (if t.toList = tTABLE then (if (f1.length : Int) < 1 then some false else (if (f1.length : Int) > 257 then some false else mandrelref11_May.l0 k ((i + 1 : Nat) : Int) p r b l)) else (if (f1.length : Int) = 0 then mandrelref11_May.l0 k ((i + 1 : Nat) : Int) p r b l else some false)))) (fun k => ?_) (Ev.bind F.name h1), h2⟩
    simp only [mandrelref11_May.l2]
    rw [if_neg (by omega), last_eq h0 hm0, if_pos (by omega), if_pos (by omega), w64n i (by omega)]
  | succ d ih =>
    intro m hm
    have hml : m < f1.length := by omega
    have hd : f1.drop m = rd f1 (m : Int) :: f1.drop (m + 1) := by
      rw [List.drop_eq_getElem_cons hml]
      simp [rd, List.getD_eq_getElem?_getD, List.getElem?_eq_getElem hml]
    rw [hd, List.all_cons]
    by_cases a1 : rd f1 (m : Int) < 0
    · refine ⟨false, Ev.step (f := fun _ => some false) (fun k => ?_) (Ev.now _), fun q => by cases q⟩
      simp only [mandrelref11_May.l2]
      rw [if_pos (by omega), if_pos (by omega), if_pos a1]
    · by_cases a2 : rd f1 (m : Int) ≥ (l.length : Int)
      · refine ⟨false, Ev.step (f := fun _ => some false) (fun k => ?_) (Ev.now _), fun q => by cases q⟩
        simp only [mandrelref11_May.l2]
        rw [if_pos (by omega), if_pos (by omega), if_neg a1, if_pos a2]
      · obtain ⟨v, h1, h2⟩ := ih (m + 1) (by omega)
        refine ⟨v, Ev.step (f := fun k => mandrelref11_May.l2 k (i : Int) ((m + 1 : Nat) : Int) p r b l f0 f1 f2) (fun k => ?_) h1, fun q => ?_⟩
        · simp only [mandrelref11_May.l2]
          rw [if_pos (by omega), if_pos (by omega), if_neg a1, if_neg a2, w64n m (by omega)]
        · obtain ⟨g1, g2, g3⟩ := h2 q
          refine ⟨?_, g2, g3⟩
          rw [g1, decide_eq_true (show 0 ≤ rd f1 (m : Int) by omega), decide_eq_true (show rd f1 (m : Int) < (l.length : Int) by omega)]
          rfl
theorem may_l1 (p r : Int) (b : Bool) (l : List S80) (i : Nat) (f0 : List S83) (f1 : List Int) (f2 : Int) (hi : i < l.length) (hlm : l.length ≤ maxLen) (h0 : f0.length ≠ 0) (hm0 : f0.length ≤ maxLen) (hm1 : f1.length ≤ maxLen)
    (hw : ∀ y ∈ f0, 0 ≤ y.f0 ∧ y.f0 ≤ 255 ∧ y.f2.length ≤ maxLen) (R : Prop) (H : ∃ v, Ev (fun k => mandrelref11_May.l0 k ((i + 1 : Nat) : Int) p r b l) v ∧ (v = true → R)) :
    ∀ (d j : Nat), j + d = f0.length → (∀ j', j' < j → InsAt r b f0 j') → ∃ v, Ev (fun k => mandrelref11_May.l1 k (i : Int) (j : Int) p r b l f0 f1 f2) v ∧
      (v = true → (∀ j', j' < f0.length → InsAt r b f0 j') ∧ (f1.all fun y => decide (0 ≤ y) && decide (y < (l.length : Int))) = true ∧ followsB (rd_T83 f0 ((f0.length - 1 : Nat) : Int)).f0 (f1.length : Int) = true ∧ R) := by
  have hlm' := hlm
  have hm0' := hm0
  unfold maxLen at hlm' hm0'
  intro d
  induction d with
  | zero =>
    intro j hj hg
    obtain ⟨v, h1, h2⟩ := may_l2 p r b l i f0 f1 f2 hi hlm h0 hm0 hm1 (hg (f0.length - 1) (by omega)).1.2 R H f1.length 0 (by omega)
    refine ⟨v, Ev.step (f := fun k => mandrelref11_May.l2 k (i : Int) ((0 : Nat) : Int) p r b l f0 f1 f2) (fun k => ?_) h1, fun q => ?_⟩
    · simp only [mandrelref11_May.l1]
      rw [if_neg (by omega)]
      rfl
    · obtain ⟨g1, g2, g3⟩ := h2 q
      exact ⟨fun j' hj' => hg j' (by omega), g1, g2, g3⟩
  | succ d ih =>
    intro j hj hg
    have hjl : j < f0.length := by omega
    have hmem : rd_T83 f0 (j : Int) ∈ f0 := by
      have : rd_T83 f0 (j : Int) = f0[j] := by simp [rd_T83, List.getD_eq_getElem?_getD, List.getElem?_eq_getElem hjl]
      rw [this]
      exact List.getElem_mem hjl
    obtain ⟨w0, w1, w2⟩ := hw _ hmem
    obtain ⟨v, hv, hgood⟩ := ins_is p r b l (rd_T83 f0 (j : Int)) w0 w1 w2
    have hlast : ((j : Int) == wrap64 ((f0.length : Int) - 1)) = decide (j + 1 = f0.length) := by
      rw [last_eq h0 hm0]
      by_cases e : j + 1 = f0.length
      · rw [decide_eq_true e]
        simp
        omega
      · rw [decide_eq_false e]
        simp
        omega
    have st : ∀ k, mandrelref11_May.l1 (k + 1) (i : Int) (j : Int) p r b l f0 f1 f2 = (mandrelref11_ins.f k p r b l (rd_T83 f0 (j : Int)).f0 (rd_T83 f0 (j : Int)).f1 (rd_T83 f0 (j : Int)).f2 (rd_T83 f0 (j : Int)).f3 (rd_T83 f0 (j : Int)).f4).bind fun t => if t = true then (if (endsB (rd_T83 f0 (j : Int)).f0 != decide (j + 1 = f0.length)) = true then some false else mandrelref11_May.l1 k (i : Int) ((j + 1 : Nat) : Int) p r b l f0 f1 f2) else some false := by
      intro k
      simp only [mandrelref11_May.l1]
      rw [if_pos (by omega), if_pos (by omega), endsR, w64n j (by omega), hlast]
      rfl
    cases v with
    | false =>
      refine ⟨false, Ev.step st (Ev.bind hv (Ev.congr (f := fun _ => some false) (fun k => if_neg (by decide)) (Ev.now _))), fun q => by cases q⟩
    | true =>
      by_cases he : (endsB (rd_T83 f0 (j : Int)).f0 != decide (j + 1 = f0.length)) = true
      · refine ⟨false, Ev.step st (Ev.bind hv (Ev.congr (f := fun _ => some false) (fun k => (if_pos rfl).trans (if_pos he)) (Ev.now _))), fun q => by cases q⟩
      · have he2 : endsB (rd_T83 f0 (j : Int)).f0 = decide (j + 1 = f0.length) := by simpa using he
        obtain ⟨v, h1, h2⟩ := ih (j + 1) (by omega) (fun j' hj' => by
          by_cases e : j' = j
          · rw [e]; exact ⟨hgood rfl, he2⟩
          · exact hg j' (by omega))
        exact ⟨v, Ev.step st (Ev.bind hv (Ev.congr (fun k => (if_pos rfl).trans (if_neg he)) h1)), h2⟩
theorem may_l0 (p r : Int) (b : Bool) (l : List S80) (hlm : l.length ≤ maxLen) (hw : ∀ x ∈ l, x.f0.length ≤ maxLen ∧ x.f1.length ≤ maxLen ∧ ∀ y ∈ x.f0, 0 ≤ y.f0 ∧ y.f0 ≤ 255 ∧ y.f2.length ≤ maxLen) :
    ∀ (d i : Nat), i + d = l.length → ∃ v, Ev (fun k => mandrelref11_May.l0 k (i : Int) p r b l) v ∧ (v = true → ∀ x ∈ l.drop i, BlkGood r b l.length x) := by
  have hlm' := hlm
  unfold maxLen at hlm'
  intro d
  induction d with
  | zero =>
    intro i hi
    rw [List.drop_eq_nil_of_le (by omega)]
    refine ⟨true, Ev.step (f := fun _ => some true) (fun k => ?_) (Ev.now _), fun _ x hx => by cases hx⟩
    simp only [mandrelref11_May.l0]
    rw [if_neg (by omega)]
  | succ d ih =>
    intro i hi
    have hil : i < l.length := by omega
    have hmem : rd_T80 l (i : Int) ∈ l := by
      have : rd_T80 l (i : Int) = l[i] := by simp [rd_T80, List.getD_eq_getElem?_getD, List.getElem?_eq_getElem hil]
      rw [this]
      exact List.getElem_mem hil
    rw [drop80 l i hil]
    obtain ⟨w0, w1, w2⟩ := hw _ hmem
    have jt : ∀ k, mandrelref11_May.j2 (k + 1) (i : Int) true p r b l (rd_T80 l (i : Int)).f0 (rd_T80 l (i : Int)).f1 (rd_T80 l (i : Int)).f2 = some false := by
      intro k
      simp only [mandrelref11_May.j2]
      rw [if_pos (by first | rfl | trivial)]
    have bad : Ev (fun k => mandrelref11_May.j2 k (i : Int) true p r b l (rd_T80 l (i : Int)).f0 (rd_T80 l (i : Int)).f1 (rd_T80 l (i : Int)).f2) false := Ev.step (f := fun _ => some false) jt (Ev.now _)
    by_cases a0 : ((rd_T80 l (i : Int)).f0.length : Int) = 0
    · refine ⟨false, Ev.step (fun k => ?_) bad, fun q => by cases q⟩
      simp only [mandrelref11_May.l0]
      rw [if_pos (by omega), if_pos (by omega), if_pos a0]
    · by_cases a1 : (rd_T80 l (i : Int)).f2 < 0
      · refine ⟨false, Ev.step (fun k => ?_) bad, fun q => by cases q⟩
        simp only [mandrelref11_May.l0]
        rw [if_pos (by omega), if_pos (by omega), if_neg a0, if_pos a1]
      · by_cases a2 : (rd_T80 l (i : Int)).f2 > 64
        · refine ⟨false, Ev.step (fun k => ?_) bad, fun q => by cases q⟩
          simp only [mandrelref11_May.l0]
          rw [if_pos (by omega), if_pos (by omega), if_neg a0, if_neg a1, decide_eq_true a2]
        · obtain ⟨v, h1, h2⟩ := may_l1 p r b l i (rd_T80 l (i : Int)).f0 (rd_T80 l (i : Int)).f1 (rd_T80 l (i : Int)).f2 hil hlm (by omega) w0 w1 w2 (∀ x ∈ l.drop (i + 1), BlkGood r b l.length x) (ih (i + 1) (by omega)) _ 0 (Nat.zero_add _) (fun j' hj' => absurd hj' (by omega))
          refine ⟨v, Ev.step (f := fun k => mandrelref11_May.j2 k (i : Int) false p r b l (rd_T80 l (i : Int)).f0 (rd_T80 l (i : Int)).f1 (rd_T80 l (i : Int)).f2) (fun k => ?_) (Ev.step (f := fun k => mandrelref11_May.l1 k (i : Int) ((0 : Nat) : Int) p r b l (rd_T80 l (i : Int)).f0 (rd_T80 l (i : Int)).f1 (rd_T80 l (i : Int)).f2) (fun k => ?_) h1), fun q => ?_⟩
          · simp only [mandrelref11_May.l0]
            rw [if_pos (by omega), if_pos (by omega), if_neg a0, if_neg a1, decide_eq_false a2]
          · simp only [mandrelref11_May.j2]
            rw [if_neg (by decide)]
            rfl
          · obtain ⟨g1, g2, g3, g4⟩ := h2 q
            intro x hx
            rcases List.mem_cons.1 hx with rfl | hx
            · exact ⟨by omega, ⟨by omega, by omega⟩, g1, g2, g3⟩
            · exact g4 x hx
def szR : List S80 → Nat
  | [] => 0
  | x :: r => x.f0.length + szR r
theorem size_r (p r : Int) (b : Bool) (l : List S80) (hlm : l.length ≤ 200) (hw : ∀ x ∈ l, x.f0.length ≤ 1500) :
    ∀ (d i n : Nat), i + d = l.length → n ≤ 1500 * i → Ev (fun k => mandrelref11_Size.l0 k (n : Int) (i : Int) p r b l) ((n + szR (l.drop i) : Nat) : Int) := by
  intro d
  induction d with
  | zero =>
    intro i n hi hn
    rw [List.drop_eq_nil_of_le (by omega)]
    refine Ev.step (f := fun _ => some ((n : Nat) : Int)) (fun k => ?_) (Ev.now _)
    simp only [mandrelref11_Size.l0]
    rw [if_neg (by omega)]
  | succ d ih =>
    intro i n hi hn
    have hil : i < l.length := by omega
    have hmem : rd_T80 l (i : Int) ∈ l := by
      have : rd_T80 l (i : Int) = l[i] := by simp [rd_T80, List.getD_eq_getElem?_getD, List.getElem?_eq_getElem hil]
      rw [this]
      exact List.getElem_mem hil
    have hx := hw _ hmem
    rw [drop80 l i hil]
    have h := ih (i + 1) (n + (rd_T80 l (i : Int)).f0.length) (by omega) (by omega)
    have e : n + (rd_T80 l (i : Int)).f0.length + szR (l.drop (i + 1)) = n + szR (rd_T80 l (i : Int) :: l.drop (i + 1)) := by
      show _ = n + ((rd_T80 l (i : Int)).f0.length + szR (l.drop (i + 1)))
      omega
    rw [e] at h
    refine Ev.step (fun k => ?_) h
    simp only [mandrelref11_Size.l0]
    rw [if_pos (by omega), if_pos (by omega), w64 _ (by omega) (by omega), w64n i (by omega)]
    congr 1
theorem sizeR_is (p r : Int) (b : Bool) (l : List S80) (hlm : l.length ≤ 200) (hw : ∀ x ∈ l, x.f0.length ≤ 1500) : Ev (fun k => mandrelref11_Size.f k p r b l) (szR l : Int) := by
  have h := size_r p r b l hlm hw l.length 0 0 (by omega) (by omega)
  rw [Nat.zero_add] at h
  exact h
structure Good (p r : Int) (b : Bool) (l : List S80) : Prop where
  regs : 0 ≤ p ∧ p ≤ r ∧ r ≤ 1024
  many : 1 ≤ l.length ∧ l.length ≤ 200
  small : szR l ≤ 16384
  few : ∀ x ∈ l, x.f0.length ≤ 1500
  blks : ∀ x ∈ l, BlkGood r b l.length x
theorem may_is (p r : Int) (b : Bool) (l : List S80) (hlm : l.length ≤ 200) (hfew : ∀ x ∈ l, x.f0.length ≤ 1500) (hw : ∀ x ∈ l, x.f0.length ≤ maxLen ∧ x.f1.length ≤ maxLen ∧ ∀ y ∈ x.f0, 0 ≤ y.f0 ∧ y.f0 ≤ 255 ∧ y.f2.length ≤ maxLen) :
    ∃ v, Ev (fun k => mandrelref11_May.f k p r b l) v ∧ (v = true → Good p r b l) := by
  have jt : Ev (fun k => mandrelref11_May.j0 k true p r b l) false := by
    refine Ev.step (f := fun _ => some false) (fun k => ?_) (Ev.now _)
    simp only [mandrelref11_May.j0]
    rw [if_pos (by first | rfl | trivial)]
  have bad : (∀ k, mandrelref11_May.f k p r b l = mandrelref11_May.j0 k true p r b l) → ∃ v, Ev (fun k => mandrelref11_May.f k p r b l) v ∧ (v = true → Good p r b l) :=
    fun h => ⟨false, Ev.congr h jt, fun q => by cases q⟩
  by_cases a0 : p < 0
  · exact bad (fun k => if_pos a0)
  · by_cases a1 : p > r
    · exact bad (fun k => (if_neg a0).trans (if_pos a1))
    · by_cases a2 : r > 1024
      · exact bad (fun k => (if_neg a0).trans ((if_neg a1).trans (if_pos a2)))
      · by_cases a3 : (l.length : Int) < 1
        · exact bad (fun k => (if_neg a0).trans ((if_neg a1).trans ((if_neg a2).trans (if_pos a3))))
        · have a4 : ¬ (l.length : Int) > 4096 := by omega
          have hf : ∀ k, mandrelref11_May.f k p r b l = (mandrelref11_Size.f k p r b l).bind fun t => mandrelref11_May.j0 k (decide (t > 16384)) p r b l :=
            fun k => (if_neg a0).trans ((if_neg a1).trans ((if_neg a2).trans ((if_neg a3).trans (if_neg a4))))
          by_cases a5 : (szR l : Int) > 16384
          · refine ⟨false, Ev.congr hf (Ev.bind (f := fun k t => mandrelref11_May.j0 k (decide (t > 16384)) p r b l) (sizeR_is p r b l hlm hfew) ?_), fun q => by cases q⟩
            rw [decide_eq_true a5]
            exact jt
          · obtain ⟨v, h1, h2⟩ := may_l0 p r b l (by unfold maxLen; omega) hw l.length 0 (by omega)
            refine ⟨v, Ev.congr hf (Ev.bind (f := fun k t => mandrelref11_May.j0 k (decide (t > 16384)) p r b l) (sizeR_is p r b l hlm hfew) ?_), fun q => ⟨⟨by omega, by omega, by omega⟩, ⟨by omega, hlm⟩, by omega, hfew, h2 q⟩⟩
            rw [decide_eq_false a5]
            refine Ev.step (f := fun k => mandrelref11_May.l0 k ((0 : Nat) : Int) p r b l) (fun k => ?_) h1
            simp only [mandrelref11_May.j0]
            rw [if_neg (by decide)]
            rfl
theorem conv_rd (f0 : List S83) (j : Int) : rd_T84 (f0.map conv83) j = conv83 (rd_T83 f0 j) := by
  unfold rd_T84 rd_T83
  rw [List.getD_eq_getElem?_getD, List.getD_eq_getElem?_getD, List.getElem?_map]
  cases f0[j.toNat]? <;> rfl
theorem conv_rd80 (l : List S80) (j : Int) : rd_T87 (l.map conv80) j = conv80 (rd_T80 l j) := by
  unfold rd_T87 rd_T80
  rw [List.getD_eq_getElem?_getD, List.getD_eq_getElem?_getD, List.getElem?_map]
  cases l[j.toNat]? <;> rfl
theorem whole_l (r : Int) (b : Bool) (f0 : List S83) (hm0 : f0.length ≤ maxLen) (hg : ∀ j, j < f0.length → InsAt r b f0 j) :
    ∀ (d j : Nat), j + d = f0.length → Ev (fun k => wholeL k ((f0.length : Int) - 1) r b ((f0.drop j).map conv83) (j : Int)) true := by
  intro d
  induction d with
  | zero =>
    intro j hj
    rw [List.drop_eq_nil_of_le (by omega)]
    exact Ev.now _
  | succ d ih =>
    intro j hj
    have hjl : j < f0.length := by omega
    rw [drop83 f0 j hjl, List.map_cons]
    obtain ⟨⟨hm, _⟩, he⟩ := hg j hjl
    have h := ih (j + 1) (by omega)
    refine Ev.congr (f := fun k => (mayO k r b (conv83 (rd_T83 f0 (j : Int)))).bind fun m => (vcode_Ends.f (conv83 (rd_T83 f0 (j : Int))).f0).bind fun e => if (!m || (decide ((j : Int) < (f0.length : Int) - 1) && e)) = true then some false else wholeL k ((f0.length : Int) - 1) r b ((f0.drop (j + 1)).map conv83) ((j : Int) + 1)) (fun k => rfl) (Ev.bind hm ?_)
    refine Ev.congr (fun k => ?_) h
    show (vcode_Ends.f (rd_T83 f0 (j : Int)).f0).bind _ = _
    rw [endsV, Option.bind_some, he]
    have e2 : (!true || (decide ((j : Int) < (f0.length : Int) - 1) && decide (j + 1 = f0.length))) = false := by
      by_cases q : j + 1 = f0.length
      · rw [decide_eq_false (by omega : ¬ (j : Int) < (f0.length : Int) - 1)]; rfl
      · rw [decide_eq_false q]; simp
    rw [e2, if_neg (by decide)]
    rfl
theorem whole_is (p r : Int) (b : Bool) (l : List S80) (x : S80) (hm0 : x.f0.length ≤ maxLen) (G : BlkGood r b l.length x) : Ev (fun k => vcode_Code_whole.f k p r b (l.map conv80) (conv80 x).f0 (conv80 x).f1 (conv80 x).f2) true := by
  have h := whole_l r b x.f0 hm0 G.ins x.f0.length 0 (by omega)
  have hs := G.some_
  have he := (G.ins (x.f0.length - 1) (by omega)).2
  rw [decide_eq_true (show x.f0.length - 1 + 1 = x.f0.length by omega)] at he
  have hlast : rd_T84 (x.f0.map conv83) (((x.f0.map conv83).length : Int) - 1) = conv83 (rd_T83 x.f0 ((x.f0.length - 1 : Nat) : Int)) := by
    rw [conv_rd, List.length_map, show ((x.f0.length : Int) - 1) = ((x.f0.length - 1 : Nat) : Int) by omega]
  have hany : (x.f1.any fun y => awayB y ((l.map conv80).length : Int)) = false := by rw [List.length_map]; exact away_any _ _ G.next
  refine Ev.congr (f := fun k => (wholeL k ((x.f0.length : Int) - 1) r b ((x.f0.drop 0).map conv83) ((0 : Nat) : Int)).bind fun q => some (q && !(x.f1.any fun y => awayB y ((l.map conv80).length : Int)))) (fun k => ?_) (Ev.bind h (Ev.congr (f := fun _ => some true) (fun k => by rw [hany]; rfl) (Ev.now _)))
  show vcode_Code_whole.f k p r b (l.map conv80) (x.f0.map conv83) x.f1 x.f2 = _
  unfold vcode_Code_whole.f
  rw [if_neg (by rw [List.length_map]; exact hs), hlast]
  show (vcode_Ends.f (rd_T83 x.f0 ((x.f0.length - 1 : Nat) : Int)).f0).bind _ = _
  rw [endsV, Option.bind_some, he]
  show (vcode_follows.f (rd_T83 x.f0 ((x.f0.length - 1 : Nat) : Int)).f0 (x.f1.length : Int)).bind _ = _
  rw [followsV, Option.bind_some, G.fol, decide_eq_false (by have := G.deep; omega), decide_eq_false (by have := G.deep; omega), if_neg (by decide), List.length_map]
  rfl
theorem sizeV (p r : Int) (b : Bool) (l : List S80) (hlm : l.length ≤ 200) (hw : ∀ x ∈ l, x.f0.length ≤ 1500) :
    ∀ (d i n : Nat), i + d = l.length → n ≤ 1500 * i → Ev (fun k => vcode_Size.l0 k (n : Int) (l.map conv80) ((l.map conv80).length : Int) (i : Int)) ((n + szR (l.drop i) : Nat) : Int) := by
  have hlen : (l.map conv80).length = l.length := List.length_map _
  intro d
  induction d with
  | zero =>
    intro i n hi hn
    rw [List.drop_eq_nil_of_le (by omega)]
    refine Ev.step (f := fun _ => some ((n : Nat) : Int)) (fun k => ?_) (Ev.now _)
    simp only [vcode_Size.l0]
    rw [if_neg (by omega)]
  | succ d ih =>
    intro i n hi hn
    have hil : i < l.length := by omega
    have hmem : rd_T80 l (i : Int) ∈ l := by
      have : rd_T80 l (i : Int) = l[i] := by simp [rd_T80, List.getD_eq_getElem?_getD, List.getElem?_eq_getElem hil]
      rw [this]
      exact List.getElem_mem hil
    have hx := hw _ hmem
    rw [drop80 l i hil]
    have h := ih (i + 1) (n + (rd_T80 l (i : Int)).f0.length) (by omega) (by omega)
    have e : n + (rd_T80 l (i : Int)).f0.length + szR (l.drop (i + 1)) = n + szR (rd_T80 l (i : Int) :: l.drop (i + 1)) := by
      show _ = n + ((rd_T80 l (i : Int)).f0.length + szR (l.drop (i + 1)))
      omega
    rw [e] at h
    refine Ev.step (fun k => ?_) h
    have el : (rd_T87 (l.map conv80) (i : Int)).f0.length = (rd_T80 l (i : Int)).f0.length := by rw [conv_rd80]; exact List.length_map _
    simp only [vcode_Size.l0]
    rw [if_pos (by omega), if_pos (by omega), if_pos (by omega), el, w64 _ (by omega) (by omega), w64n i (by omega)]
    congr 1
theorem check_l (p r : Int) (b : Bool) (l : List S80) (G : Good p r b l) (hw : ∀ x ∈ l, x.f0.length ≤ maxLen) :
    ∀ (d i : Nat), i + d = l.length → Ev (fun k => vcode_Check.l0 k (l.map conv80) ((l.map conv80).length : Int) (i : Int) p r b (l.map conv80)) none := by
  have hlen : (l.map conv80).length = l.length := List.length_map _
  have hm := G.many
  intro d
  induction d with
  | zero =>
    intro i hi
    refine Ev.step (f := fun _ => some none) (fun k => ?_) (Ev.now _)
    simp only [vcode_Check.l0]
    rw [if_neg (by omega)]
  | succ d ih =>
    intro i hi
    have hil : i < l.length := by omega
    have hmem : rd_T80 l (i : Int) ∈ l := by
      have : rd_T80 l (i : Int) = l[i] := by simp [rd_T80, List.getD_eq_getElem?_getD, List.getElem?_eq_getElem hil]
      rw [this]
      exact List.getElem_mem hil
    have h := ih (i + 1) (by omega)
    refine Ev.step (f := fun k => (vcode_Code_whole.f k p r b (l.map conv80) (conv80 (rd_T80 l (i : Int))).f0 (conv80 (rd_T80 l (i : Int))).f1 (conv80 (rd_T80 l (i : Int))).f2).bind fun t => if t = true then vcode_Check.l0 k (l.map conv80) ((l.map conv80).length : Int) ((i + 1 : Nat) : Int) p r b (l.map conv80) else some (some 1)) (fun k => ?_) (Ev.bind (whole_is p r b l _ (hw _ hmem) (G.blks _ hmem)) (Ev.congr (fun k => if_pos rfl) h))
    simp only [vcode_Check.l0]
    rw [if_pos (by omega), if_pos (by omega), if_pos (by omega), conv_rd80, w64n i (by omega)]
theorem check_is (p r : Int) (b : Bool) (l : List S80) (G : Good p r b l) : Ev (fun k => vcode_Check.f k p r b (l.map conv80)) none := by
  have hlen : (l.map conv80).length = l.length := List.length_map _
  have hr := G.regs
  have hm := G.many
  have hs := G.small
  have hsz := sizeV p r b l hm.2 G.few l.length 0 0 (by omega) (by omega)
  rw [Nat.zero_add] at hsz
  have hf : ∀ k, vcode_Check.f k p r b (l.map conv80) = (vcode_Size.f k p r b (l.map conv80)).bind fun t => vcode_Check.j0 k (decide (t > 16384)) p r b (l.map conv80) :=
    fun k => (if_neg (by omega)).trans ((if_neg (by omega)).trans ((if_neg (by omega)).trans ((if_neg (by omega)).trans (if_neg (by omega)))))
  refine Ev.congr hf (Ev.bind (a := (szR l : Int)) (f := fun k t => vcode_Check.j0 k (decide (t > 16384)) p r b (l.map conv80)) hsz ?_)
  rw [decide_eq_false (by omega)]
  refine Ev.step (f := fun k => vcode_Check.l0 k (l.map conv80) ((l.map conv80).length : Int) ((0 : Nat) : Int) p r b (l.map conv80)) (fun k => ?_) (check_l p r b l G (fun x hx => by have := G.few x hx; unfold maxLen; omega) l.length 0 (by omega))
  simp only [vcode_Check.j0]
  rw [if_neg (by decide)]
  rfl
abbrev bl (s : ByteArray) : List UInt8 := s.data.toList
theorem bl_app (a b : ByteArray) : bl (a ++ b) = bl a ++ bl b := by simp [bl]
theorem bl_size (s : ByteArray) : s.size = (bl s).length := by simp [bl]
theorem dig10 : ∀ i : Nat, i < 10 → (10 : UInt8) ≠ UInt8.ofNat (48 + i) := by decide
theorem dec10 (u : Nat) : (10 : UInt8) ∉ Lib.decDigits u := by
  induction u using Nat.strongRecOn with
  | _ u ih =>
    rw [Lib.decDigits]
    split
    · rename_i h
      simp only [List.mem_singleton]
      exact dig10 u h
    · simp only [List.mem_append, List.mem_singleton, not_or]
      exact ⟨ih _ (by omega), dig10 _ (by omega)⟩
def I64 (n : Int) : Prop := -9223372036854775808 ≤ n ∧ n ≤ 9223372036854775807
def Wd (s : ByteArray) : Prop := (10 : UInt8) ∉ bl s ∧ (bl s).length ≤ 64
theorem itoa_w (n : Int) (h : I64 n) : ∃ s, itoaF n = some s ∧ (10 : UInt8) ∉ bl s ∧ (bl s).length ≤ 21 := by
  refine ⟨_, if_pos h, ?_, ?_⟩
  · show (10 : UInt8) ∉ Lib.itoa n
    unfold Lib.itoa
    split
    · simp only [List.mem_cons, not_or]
      exact ⟨by decide, dec10 _⟩
    · exact dec10 _
  · exact Lib.itoa_length_le n h.1 h.2
theorem uint_w (n : Int) (h0 : 0 ≤ n) (h1 : n ≤ 18446744073709551615) : ∃ s, fmtUintF n = some s ∧ (10 : UInt8) ∉ bl s ∧ (bl s).length ≤ 21 := by
  refine ⟨_, if_pos ⟨h0, h1⟩, dec10 _, ?_⟩
  show (Lib.decDigits n.toNat).length ≤ 21
  rw [Lib.decDigits_length]
  have := Lib.nDigits_le20 n.toNat (by omega)
  omega
def nameRow (n : Nat) : Bool := (match vcode_nameOf.f (n : Int) with
  | some s => decide ((10 : UInt8) ∉ s.data.toList) && decide (s.data.toList.length ≤ 64)
  | none => false) && (vcode_memory.f (n : Int)).isSome
theorem name_rows : ∀ n : Nat, n < 256 → nameRow n = true := by decide +kernel
theorem name_w (op : Int) (h0 : 0 ≤ op) (h1 : op ≤ 255) : (∃ s, vcode_nameOf.f op = some s ∧ Wd s) ∧ ∃ b, vcode_memory.f op = some b := by
  obtain ⟨n, rfl⟩ := Int.eq_ofNat_of_zero_le h0
  have h := name_rows n (by omega)
  unfold nameRow at h
  rw [Bool.and_eq_true] at h
  obtain ⟨h2, h3⟩ := h
  refine ⟨?_, Option.isSome_iff_exists.1 h3⟩
  cases hn : vcode_nameOf.f (n : Int) with
  | none => rw [hn] at h2; cases h2
  | some s =>
    rw [hn] at h2
    have h2 : (decide ((10 : UInt8) ∉ s.data.toList) && decide (s.data.toList.length ≤ 64)) = true := h2
    rw [Bool.and_eq_true] at h2
    exact ⟨s, rfl, of_decide_eq_true h2.1, of_decide_eq_true h2.2⟩
theorem reg_w (n : Int) (h : I64 n) : ∃ s, vcode_reg.f n = some s ∧ Wd s := by
  obtain ⟨t, ht, h1, h2⟩ := itoa_w n h
  refine ⟨(⟨#[114]⟩ : ByteArray) ++ t, ?_, ?_, ?_⟩
  · unfold vcode_reg.f
    rw [show strconv_Itoa.f n = some t from ht, Option.bind_some, if_pos (by rw [bl_size]; omega)]
  · rw [bl_app]
    simp only [List.mem_append, not_or]
    exact ⟨by decide, h1⟩
  · rw [bl_app, List.length_append]
    have : (bl (⟨#[114]⟩ : ByteArray)).length = 1 := rfl
    omega
def Ln (s : ByteArray) : Prop := ∃ t, bl s = 32 :: 32 :: (t ++ [10]) ∧ (10 : UInt8) ∉ t ∧ t.length ≤ 300000
theorem lens_le : ∀ X : List (List UInt8), (∀ y ∈ X, y.length ≤ 64) → Lib.lens X ≤ 64 * X.length
  | [], _ => by simp [Lib.lens]
  | y :: r, h => by
    have h1 := lens_le r (fun z hz => h z (List.mem_cons_of_mem _ hz))
    have h2 := h y (List.mem_cons_self ..)
    simp only [Lib.lens, List.map_cons, List.sum_cons, List.length_cons] at h1 ⊢
    omega
theorem join_ok (x : List ByteArray) (hne : x ≠ []) (hw : ∀ y ∈ x, Wd y) (hl : x.length ≤ 4000) : ∃ s, strings_Join.f x (⟨#[32]⟩ : ByteArray) = some s ∧ (10 : UInt8) ∉ bl s ∧ (bl s).length ≤ 270000 := by
  have e : (joinL x (⟨#[32]⟩ : ByteArray)).length ≤ 270000 ∧ (10 : UInt8) ∉ joinL x (⟨#[32]⟩ : ByteArray) := by
    cases x with
    | nil => exact absurd rfl hne
    | cons y r =>
      unfold joinL
      rw [List.map_cons]
      constructor
      · rw [Lib.join_length]
        have h1 := lens_le (y.data.toList :: r.map (·.data.toList)) (by
          intro z hz
          rcases List.mem_cons.1 hz with rfl | hz
          · exact (hw y (List.mem_cons_self ..)).2
          · obtain ⟨q, hq, rfl⟩ := List.mem_map.1 hz
            exact (hw q (List.mem_cons_of_mem _ hq)).2)
        simp only [List.length_cons, List.length_map] at h1 hl ⊢
        show 1 * _ + _ ≤ _
        omega
      · rw [Lib.join_cons]
        simp only [List.mem_append, not_or]
        refine ⟨(hw y (List.mem_cons_self ..)).1, ?_⟩
        intro hm
        unfold Lib.joinTail at hm
        obtain ⟨q, hq, hq2⟩ := List.mem_flatten.1 hm
        obtain ⟨z, hz, rfl⟩ := List.mem_map.1 hq
        obtain ⟨u, hu, rfl⟩ := List.mem_map.1 hz
        rcases List.mem_append.1 hq2 with h | h
        · revert h
          decide
        · exact (hw u (List.mem_cons_of_mem _ hu)).1 h
  refine ⟨⟨(joinL x (⟨#[32]⟩ : ByteArray)).toArray⟩, ?_, e.2, e.1⟩
  unfold strings_Join.f
  rw [if_neg hne, if_pos ⟨by omega, by omega⟩]
theorem fin_ev (x5 : List ByteArray) (hne : x5 ≠ []) (hw : ∀ y ∈ x5, Wd y) (hl : x5.length ≤ 4000) :
    ∃ s, ((strings_Join.f x5 (⟨#[32]⟩ : ByteArray)).bind fun t356 => (if 2 + t356.size ≤ 9223372036854775807 then (if ((⟨#[32, 32]⟩ : ByteArray) ++ t356).size + 1 ≤ 9223372036854775807 then (some (((⟨#[32, 32]⟩ : ByteArray) ++ t356) ++ (⟨#[10]⟩ : ByteArray))) else (none)) else (none))) = some s ∧ Ln s := by
  obtain ⟨t, ht, h1, h2⟩ := join_ok x5 hne hw hl
  refine ⟨((⟨#[32, 32]⟩ : ByteArray) ++ t) ++ (⟨#[10]⟩ : ByteArray), ?_, bl t, ?_, h1, by omega⟩
  · rw [ht, Option.bind_some, if_pos (by rw [bl_size]; omega), if_pos (by rw [bl_size, bl_app, List.length_append]; have : (bl (⟨#[32, 32]⟩ : ByteArray)).length = 2 := rfl; omega)]
  · rw [bl_app, bl_app]
    rfl
theorem rd_mem (xs : List Int) (i : Nat) (h : i < xs.length) : rd xs (i : Int) ∈ xs := by
  have : rd xs (i : Int) = xs[i] := by simp [rd, List.getD_eq_getElem?_getD, List.getElem?_eq_getElem h]
  rw [this]
  exact List.getElem_mem h
theorem wd_push {x : List ByteArray} {t : ByteArray} (hw : ∀ y ∈ x, Wd y) (ht : Wd t) : ∀ y ∈ x ++ [t], Wd y := by
  intro y hy
  rcases List.mem_append.1 hy with h | h
  · exact hw y h
  · rw [List.mem_singleton.1 h]; exact ht
theorem ne_push (x : List ByteArray) (t : ByteArray) : x ++ [t] ≠ [] := by simp
theorem w_of {t : ByteArray} (h1 : (10 : UInt8) ∉ bl t) (h2 : (bl t).length ≤ 21) : Wd t := ⟨h1, by omega⟩
theorem ln_l1 (nxt : List Int) (hn : ∀ y ∈ nxt, I64 y) (hnl : nxt.length ≤ 2000) :
    ∀ (d i : Nat) (x5 : List ByteArray), i + d = nxt.length → x5 ≠ [] → (∀ y ∈ x5, Wd y) → x5.length + d ≤ 4000 → ∃ s, Ev (fun k => vcode_Ins_line.l1 k x5 nxt (nxt.length : Int) (i : Int)) s ∧ Ln s := by
  intro d
  induction d with
  | zero =>
    intro i x5 hi hne hw hl
    obtain ⟨s, h1, h2⟩ := fin_ev x5 hne hw (by omega)
    refine ⟨s, Ev.step (f := fun _ => some s) (fun k => ?_) (Ev.now _), h2⟩
    simp only [vcode_Ins_line.l1]
    rw [if_neg (by omega)]
    exact h1
  | succ d ih =>
    intro i x5 hi hne hw hl
    obtain ⟨t, ht, h1, h2⟩ := itoa_w (rd nxt (i : Int)) (hn _ (rd_mem nxt i (by omega)))
    obtain ⟨s, h3, h4⟩ := ih (i + 1) (x5 ++ [t]) (by omega) (ne_push _ _) (wd_push hw (w_of h1 h2)) (by rw [List.length_append, List.length_singleton]; omega)
    refine ⟨s, Ev.step (fun k => ?_) h3, h4⟩
    simp only [vcode_Ins_line.l1]
    rw [if_pos (by omega), if_pos (by omega), if_pos (by omega), show strconv_Itoa.f (rd nxt (i : Int)) = some t from ht, Option.bind_some, if_pos (by omega), w64n i (by omega)]
theorem ln_j4 (nxt : List Int) (hn : ∀ y ∈ nxt, I64 y) (hnl : nxt.length ≤ 2000) (x5 : List ByteArray) (hne : x5 ≠ []) (hw : ∀ y ∈ x5, Wd y) (hl : x5.length ≤ 1900) (b : Bool) :
    ∃ s, Ev (fun k => vcode_Ins_line.j4 k nxt x5 b) s ∧ Ln s := by
  cases b with
  | false =>
    obtain ⟨s, h1, h2⟩ := fin_ev x5 hne hw (by omega)
    refine ⟨s, Ev.step (f := fun _ => some s) (fun k => ?_) (Ev.now _), h2⟩
    simp only [vcode_Ins_line.j4]
    rw [if_neg (by decide)]
    exact h1
  | true =>
    obtain ⟨s, h3, h4⟩ := ln_l1 nxt hn hnl nxt.length 0 (x5 ++ [(⟨#[45, 62]⟩ : ByteArray)]) (by omega) (ne_push _ _) (wd_push hw ⟨by decide, by decide⟩) (by rw [List.length_append, List.length_singleton]; omega)
    refine ⟨s, Ev.step (fun k => ?_) h3, h4⟩
    simp only [vcode_Ins_line.j4]
    rw [if_pos (by first | rfl | trivial), if_pos (by omega)]
    rfl
theorem ln_j3 (nxt : List Int) (hn : ∀ y ∈ nxt, I64 y) (hnl : nxt.length ≤ 2000) (x5 : List ByteArray) (hne : x5 ≠ []) (hw : ∀ y ∈ x5, Wd y) (hl : x5.length ≤ 1900) (op dst : Int) (src : List Int) (n off : Int) :
    ∃ s, Ev (fun k => vcode_Ins_line.j3 k nxt x5 op dst src n off) s ∧ Ln s := by
  have hj : ∃ b, ∀ k, vcode_Ins_line.j3 (k + 1) nxt x5 op dst src n off = vcode_Ins_line.j4 k nxt x5 b := by
    by_cases h : endsB op = true
    · refine ⟨decide ((nxt.length : Int) > 0), fun k => ?_⟩
      simp only [vcode_Ins_line.j3]
      rw [endsV, Option.bind_some, if_pos h]
    · refine ⟨false, fun k => ?_⟩
      simp only [vcode_Ins_line.j3]
      rw [endsV, Option.bind_some, if_neg h]
  obtain ⟨b, hj⟩ := hj
  obtain ⟨s, h1, h2⟩ := ln_j4 nxt hn hnl x5 hne hw hl b
  exact ⟨s, Ev.step hj h1, h2⟩
theorem u64_range (x : Int) : 0 ≤ IntKind.u64.wrap x ∧ IntKind.u64.wrap x ≤ 18446744073709551615 := by
  simp only [IntKind.wrap, IntKind.bits, IntKind.signed]
  simp
  omega
theorem ln_j2 (nxt : List Int) (hn : ∀ y ∈ nxt, I64 y) (hnl : nxt.length ≤ 2000) (x5 : List ByteArray) (hne : x5 ≠ []) (hw : ∀ y ∈ x5, Wd y) (hl : x5.length ≤ 1800) (op dst : Int) (src : List Int) (n off : Int) (b : Bool) (h0 : 0 ≤ op) (h1 : op ≤ 255) (hN : I64 n) :
    ∃ s, Ev (fun k => vcode_Ins_line.j2 k nxt x5 b op dst src n off) s ∧ Ln s := by
  have key : ∃ x6 : List ByteArray, x6 ≠ [] ∧ (∀ y ∈ x6, Wd y) ∧ x6.length ≤ 1900 ∧ ∀ k, vcode_Ins_line.j2 (k + 1) nxt x5 b op dst src n off = vcode_Ins_line.j3 k nxt x6 op dst src n off := by
    cases b with
    | true =>
      obtain ⟨t, ht, h1, h2⟩ := itoa_w n hN
      refine ⟨x5 ++ [t], ne_push _ _, wd_push hw (w_of h1 h2), by rw [List.length_append, List.length_singleton]; omega, fun k => ?_⟩
      simp only [vcode_Ins_line.j2]
      rw [if_pos (by first | rfl | trivial), show strconv_FormatInt.f n 10 = some t from (if_pos rfl).trans ht, Option.bind_some, if_pos (by omega)]
    | false =>
      obtain ⟨m, hm⟩ := (name_w op h0 h1).2
      cases m with
      | false =>
        refine ⟨x5, hne, hw, by omega, fun k => ?_⟩
        simp only [vcode_Ins_line.j2]
        rw [if_neg (by decide), hm, Option.bind_some, if_neg (by decide)]
      | true =>
        obtain ⟨t, ht, h1, h2⟩ := uint_w (IntKind.u64.wrap off) (u64_range off).1 (u64_range off).2
        refine ⟨x5 ++ [(⟨#[43]⟩ : ByteArray) ++ t], ne_push _ _, wd_push hw ⟨?_, ?_⟩, by rw [List.length_append, List.length_singleton]; omega, fun k => ?_⟩
        · rw [bl_app]
          simp only [List.mem_append, not_or]
          exact ⟨by decide, h1⟩
        · rw [bl_app, List.length_append]
          have : (bl (⟨#[43]⟩ : ByteArray)).length = 1 := rfl
          omega
        · simp only [vcode_Ins_line.j2]
          rw [if_neg (by decide), hm, Option.bind_some, if_pos rfl, show strconv_FormatUint.f (IntKind.u64.wrap off) 10 = some t from (if_pos rfl).trans ht, Option.bind_some, if_pos (by rw [bl_size]; omega), if_pos (by omega)]
  obtain ⟨x6, a1, a2, a3, hj⟩ := key
  obtain ⟨s, h2, h3⟩ := ln_j3 nxt hn hnl x6 a1 a2 a3 op dst src n off
  exact ⟨s, Ev.step hj h2, h3⟩
theorem ln_l0 (nxt : List Int) (hn : ∀ y ∈ nxt, I64 y) (hnl : nxt.length ≤ 2000) (op dst : Int) (src : List Int) (n off : Int) (h0 : 0 ≤ op) (h1 : op ≤ 255) (hN : I64 n) (hs : ∀ y ∈ src, I64 y) :
    ∀ (d i : Nat) (x5 : List ByteArray), i + d = src.length → x5 ≠ [] → (∀ y ∈ x5, Wd y) → x5.length + d ≤ 1800 → src.length ≤ 1800 → ∃ s, Ev (fun k => vcode_Ins_line.l0 k nxt x5 src (src.length : Int) (i : Int) op dst src n off) s ∧ Ln s := by
  intro d
  induction d with
  | zero =>
    intro i x5 hi hne hw hl hsl
    have key : ∃ b, ∀ k, vcode_Ins_line.l0 (k + 1) nxt x5 src (src.length : Int) (i : Int) op dst src n off = vcode_Ins_line.j2 k nxt x5 b op dst src n off := by
      by_cases c1 : op = 66
      · exact ⟨true, fun k => by simp only [vcode_Ins_line.l0]; rw [if_neg (by omega), if_pos c1]⟩
      by_cases c2 : op = 35
      · exact ⟨true, fun k => by simp only [vcode_Ins_line.l0]; rw [if_neg (by omega), if_neg c1, if_pos c2]⟩
      by_cases c3 : op = 36
      · exact ⟨true, fun k => by simp only [vcode_Ins_line.l0]; rw [if_neg (by omega), if_neg c1, if_neg c2, if_pos c3]⟩
      by_cases c4 : op = 16
      · exact ⟨true, fun k => by simp only [vcode_Ins_line.l0]; rw [if_neg (by omega), if_neg c1, if_neg c2, if_neg c3, if_pos c4]⟩
      · exact ⟨op == 17, fun k => by simp only [vcode_Ins_line.l0]; rw [if_neg (by omega), if_neg c1, if_neg c2, if_neg c3, if_neg c4]⟩
    obtain ⟨b, hj⟩ := key
    obtain ⟨s, h2, h3⟩ := ln_j2 nxt hn hnl x5 hne hw (by omega) op dst src n off b h0 h1 hN
    exact ⟨s, Ev.step hj h2, h3⟩
  | succ d ih =>
    intro i x5 hi hne hw hl hsl
    obtain ⟨t, ht, hwt⟩ := reg_w (rd src (i : Int)) (hs _ (rd_mem src i (by omega)))
    obtain ⟨s, h3, h4⟩ := ih (i + 1) (x5 ++ [t]) (by omega) (ne_push _ _) (wd_push hw hwt) (by rw [List.length_append, List.length_singleton]; omega) hsl
    refine ⟨s, Ev.step (fun k => ?_) h3, h4⟩
    simp only [vcode_Ins_line.l0]
    rw [if_pos (by omega), if_pos (by omega), if_pos (by omega), ht, Option.bind_some, if_pos (by omega), w64n i (by omega)]
theorem ln_j0 (nxt : List Int) (hn : ∀ y ∈ nxt, I64 y) (hnl : nxt.length ≤ 2000) (op dst : Int) (src : List Int) (n off : Int) (h0 : 0 ≤ op) (h1 : op ≤ 255) (hN : I64 n) (hs : ∀ y ∈ src, I64 y) (hsl : src.length ≤ 1700) (x5 : List ByteArray) (hw : ∀ y ∈ x5, Wd y) (hl : x5.length ≤ 2) :
    ∃ s, Ev (fun k => vcode_Ins_line.j0 k nxt x5 op dst src n off) s ∧ Ln s := by
  obtain ⟨t, ht, hwt⟩ := (name_w op h0 h1).1
  obtain ⟨s, h3, h4⟩ := ln_l0 nxt hn hnl op dst src n off h0 h1 hN hs src.length 0 (x5 ++ [t]) (by omega) (ne_push _ _) (wd_push hw hwt) (by rw [List.length_append, List.length_singleton]; omega) (by omega)
  refine ⟨s, Ev.step (fun k => ?_) h3, h4⟩
  simp only [vcode_Ins_line.j0]
  rw [ht, Option.bind_some, if_pos (by omega)]
  rfl
theorem line_ev (nxt : List Int) (hn : ∀ y ∈ nxt, I64 y) (hnl : nxt.length ≤ 2000) (op dst : Int) (src : List Int) (n off : Int) (h0 : 0 ≤ op) (h1 : op ≤ 255) (hD : I64 dst) (hN : I64 n) (hs : ∀ y ∈ src, I64 y) (hsl : src.length ≤ 1700) :
    ∃ s, Ev (fun k => vcode_Ins_line.f k op dst src n off nxt) s ∧ Ln s := by
  by_cases hd : dst ≥ 0
  · obtain ⟨t, ht, hwt⟩ := reg_w dst hD
    obtain ⟨s, h3, h4⟩ := ln_j0 nxt hn hnl op dst src n off h0 h1 hN hs hsl ([] ++ [t, (⟨#[61]⟩ : ByteArray)]) (by
      intro y hy
      simp only [List.nil_append, List.mem_cons, List.not_mem_nil, or_false] at hy
      rcases hy with rfl | rfl
      · exact hwt
      · exact ⟨by decide, by decide⟩) (by simp)
    refine ⟨s, Ev.congr (fun k => ?_) h3, h4⟩
    unfold vcode_Ins_line.f
    rw [if_pos hd, ht, Option.bind_some, Option.bind_some, if_pos (by simp)]
  · obtain ⟨s, h3, h4⟩ := ln_j0 nxt hn hnl op dst src n off h0 h1 hN hs hsl [] (by simp) (by simp)
    exact ⟨s, Ev.congr (fun k => if_neg hd) h3, h4⟩
theorem take83 (f : List S83) (j : Nat) (h : j < f.length) : (f.take (j + 1)).map conv83 = (f.take j).map conv83 ++ [conv83 (rd_T83 f (j : Int))] := by
  rw [List.take_add_one, List.getElem?_eq_getElem h, List.map_append]
  simp [rd_T83, List.getD_eq_getElem?_getD, List.getElem?_eq_getElem h]
theorem take80 (f : List S80) (j : Nat) (h : j < f.length) : (f.take (j + 1)).map conv80 = (f.take j).map conv80 ++ [conv80 (rd_T80 f (j : Int))] := by
  rw [List.take_add_one, List.getElem?_eq_getElem h, List.map_append]
  simp [rd_T80, List.getD_eq_getElem?_getD, List.getElem?_eq_getElem h]
theorem give_l1 (p r : Int) (b : Bool) (l : List S80) (i : Nat) (hi : i < l.length) (hlm : l.length ≤ 200) (f1 : List Int) (f2 : Int) (out : List S87) (ho : out.length ≤ 200) (hm : (rd_T80 l (i : Int)).f0.length ≤ 1500) (R : Int × Int × Bool × List S87)
    (H : Ev (fun k => mandrellaw11_giveCode.l0 k ((i + 1 : Nat) : Int) p r b l p r b (out ++ [⟨(rd_T80 l (i : Int)).f0.map conv83, f1, f2⟩])) R) :
    ∀ (d j : Nat), j + d = (rd_T80 l (i : Int)).f0.length → Ev (fun k => mandrellaw11_giveCode.l1 k (i : Int) (j : Int) p r b l p r b out (((rd_T80 l (i : Int)).f0.take j).map conv83) f1 f2) R := by
  intro d
  induction d with
  | zero =>
    intro j hj
    rw [List.take_of_length_le (by omega)]
    refine Ev.step (fun k => ?_) H
    simp only [mandrellaw11_giveCode.l1]
    rw [if_pos (by omega), if_pos (by omega), if_neg (by omega), if_pos (by omega), w64n i (by omega)]
  | succ d ih =>
    intro j hj
    have h := ih (j + 1) (by omega)
    rw [take83 _ j (by omega)] at h
    refine Ev.step (fun k => ?_) h
    simp only [mandrellaw11_giveCode.l1]
    rw [if_pos (by omega), if_pos (by omega), if_pos (by omega), if_pos (by omega), if_pos (by rw [List.length_map, List.length_take]; omega), w64n j (by omega)]
    rfl
theorem give_l0 (p r : Int) (b : Bool) (l : List S80) (hlm : l.length ≤ 200) (hw : ∀ x ∈ l, x.f0.length ≤ 1500) :
    ∀ (d i : Nat), i + d = l.length → Ev (fun k => mandrellaw11_giveCode.l0 k (i : Int) p r b l p r b ((l.take i).map conv80)) (p, r, b, l.map conv80) := by
  intro d
  induction d with
  | zero =>
    intro i hi
    rw [List.take_of_length_le (by omega)]
    refine Ev.step (f := fun _ => some (p, r, b, l.map conv80)) (fun k => ?_) (Ev.now _)
    simp only [mandrellaw11_giveCode.l0]
    rw [if_neg (by omega)]
  | succ d ih =>
    intro i hi
    have hil : i < l.length := by omega
    have hmem : rd_T80 l (i : Int) ∈ l := by
      have : rd_T80 l (i : Int) = l[i] := by simp [rd_T80, List.getD_eq_getElem?_getD, List.getElem?_eq_getElem hil]
      rw [this]
      exact List.getElem_mem hil
    have h := ih (i + 1) (by omega)
    rw [take80 _ i hil] at h
    have h2 := give_l1 p r b l i hil hlm (rd_T80 l (i : Int)).f1 (rd_T80 l (i : Int)).f2 ((l.take i).map conv80) (by rw [List.length_map, List.length_take]; omega) (hw _ hmem) _ h (rd_T80 l (i : Int)).f0.length 0 (by omega)
    refine Ev.step (fun k => ?_) h2
    simp only [mandrellaw11_giveCode.l0]
    rw [if_pos (by omega), if_pos (by omega)]
    rfl
theorem give_is (p r : Int) (b : Bool) (l : List S80) (hlm : l.length ≤ 200) (hw : ∀ x ∈ l, x.f0.length ≤ 1500) : Ev (fun k => mandrellaw11_giveCode.f k p r b l) (p, r, b, l.map conv80) :=
  give_l0 p r b l hlm hw l.length 0 (by omega)
theorem mn_few (a : Nat) (n : Int) (h : mn (a : Int) 4000 ≤ n) (hn : n < 4000) : (a : Int) ≤ n := by unfold mn at h; split at h <;> omega
theorem hvIns_src : ∀ (l : List S83) (n : Int), 0 ≤ n → hvIns l n ≤ 1500 → ∀ y ∈ l, (y.f2.length : Int) ≤ 1500
  | [], _, _, _ => by simp
  | x :: r, n, h0, h => by
    unfold hvIns at h
    split at h
    · have h1 := hvIns_le r (n + 1 + mn (x.f2.length : Int) 4000)
      have h2 := mn_range x.f2.length
      intro y hy
      rcases List.mem_cons.1 hy with rfl | hy
      · exact mn_few _ _ (by omega) (by omega)
      · exact hvIns_src r _ (by omega) h y hy
    · omega
theorem hvBlk_more : ∀ (l : List S80) (n : Int), 0 ≤ n → hvBlk l n ≤ 1500 → ∀ x ∈ l, (x.f1.length : Int) ≤ 1500 ∧ ∀ y ∈ x.f0, (y.f2.length : Int) ≤ 1500
  | [], _, _, _ => by simp
  | x :: r, n, h0, h => by
    unfold hvBlk at h
    split at h
    · have h1 := hvBlk_le r (hvIns x.f0 (n + mn (x.f1.length : Int) 4000))
      have h2 := mn_range x.f1.length
      have h3 := hvIns_le x.f0 (n + mn (x.f1.length : Int) 4000)
      intro y hy
      rcases List.mem_cons.1 hy with rfl | hy
      · exact ⟨mn_few _ _ (by omega) (by omega), hvIns_src y.f0 (n + mn (y.f1.length : Int) 4000) (by omega) (by omega)⟩
      · exact hvBlk_more r _ (by omega) h y hy
    · omega
def cnt : Bool → List UInt8 → Nat × Nat
  | _, [] => (0, 0)
  | nl, b :: r => ((cnt (b == 10) r).1 + (if b = 10 then 1 else 0), (cnt (b == 10) r).2 + (if nl = true ∧ b = 32 ∧ r.head? = some 32 then 1 else 0))
theorem cnt_mid : ∀ (t : List UInt8), (10 : UInt8) ∉ t → ∀ rest, cnt false (t ++ 10 :: rest) = ((cnt true rest).1 + 1, (cnt true rest).2)
  | [], _, rest => by simp [cnt]
  | b :: t, ht, rest => by
    have h1 : b ≠ 10 := fun e => ht (by simp [e])
    have h2 : (10 : UInt8) ∉ t := fun e => ht (List.mem_cons_of_mem _ e)
    have h3 : (b == 10) = false := by simp [h1]
    rw [List.cons_append]
    simp only [cnt]
    rw [h3, cnt_mid t h2 rest]
    simp [h1]
def Adds (bs : List UInt8) (a c : Nat) : Prop := ∀ rest, cnt true (bs ++ rest) = ((cnt true rest).1 + a, (cnt true rest).2 + c)
theorem adds_nil : Adds [] 0 0 := fun _ => rfl
theorem adds_app {x y : List UInt8} {a c a' c' : Nat} (h : Adds x a c) (k : Adds y a' c') : Adds (x ++ y) (a + a') (c + c') := by
  intro rest
  rw [List.append_assoc, h, k]
  simp only [Prod.mk.injEq]
  omega
theorem adds_line (t : List UInt8) (ht : (10 : UInt8) ∉ t) : Adds (32 :: 32 :: (t ++ [10])) 1 1 := by
  intro rest
  have h : (10 : UInt8) ∉ 32 :: t := by
    simp only [List.mem_cons, not_or]
    exact ⟨by decide, ht⟩
  have e : (32 :: 32 :: (t ++ [10])) ++ rest = 32 :: ((32 :: t) ++ 10 :: rest) := by simp
  rw [e]
  have hm := cnt_mid (32 :: t) h rest
  show ((cnt ((32 : UInt8) == 10) _).1 + _, (cnt ((32 : UInt8) == 10) _).2 + _) = _
  rw [show ((32 : UInt8) == 10) = false by decide, hm]
  simp
theorem adds_head (c : UInt8) (t : List UInt8) (hc : c ≠ 10) (hc2 : c ≠ 32) (ht : (10 : UInt8) ∉ t) : Adds (c :: (t ++ [10])) 1 0 := by
  intro rest
  have e : (c :: (t ++ [10])) ++ rest = c :: (t ++ 10 :: rest) := by simp
  rw [e]
  have hm := cnt_mid t ht rest
  show ((cnt (c == 10) _).1 + _, (cnt (c == 10) _).2 + _) = _
  rw [show (c == 10) = false by simp [hc], hm]
  simp [hc, hc2]
structure InsIn (y : S83) : Prop where
  op : 0 ≤ y.f0 ∧ y.f0 ≤ 255
  dst : I64 y.f1
  src : ∀ z ∈ y.f2, I64 z
  few : y.f2.length ≤ 1500
  n : I64 y.f3
structure BlkIn (x : S80) : Prop where
  few : x.f0.length ≤ 1500
  ins : ∀ y ∈ x.f0, InsIn y
  next : ∀ z ∈ x.f1, I64 z
  nextFew : x.f1.length ≤ 1500
  deep : I64 x.f2
theorem ins_ev (nxt : List Int) (hn : ∀ z ∈ nxt, I64 z) (hnl : nxt.length ≤ 1500) : ∀ (ins : List S83) (acc : ByteArray), (∀ y ∈ ins, InsIn y) → acc.size + 300010 * ins.length ≤ txtMax →
    ∃ s bs, Ev (fun k => textIns k nxt (ins.map conv83) acc) s ∧ bl s = bl acc ++ bs ∧ Adds bs ins.length ins.length
  | [], acc, _, _ => ⟨acc, [], Ev.now _, by simp, adds_nil⟩
  | y :: r, acc, hw, hl => by
    have hy := hw y (List.mem_cons_self ..)
    rw [List.length_cons] at hl
    obtain ⟨s, h1, t, e, ht, hlen⟩ := line_ev nxt hn (by omega) y.f0 y.f1 y.f2 y.f3 y.f4 hy.op.1 hy.op.2 hy.dst hy.n hy.src (by have := hy.few; omega)
    have hsz : s.size = t.length + 3 := by rw [bl_size, e]; simp
    have hsz2 : (acc ++ s).size = acc.size + s.size := by rw [bl_size, bl_app, List.length_append, ← bl_size, ← bl_size]
    obtain ⟨s2, bs, h2, e2, h3⟩ := ins_ev nxt hn hnl r (acc ++ s) (fun z hz => hw z (List.mem_cons_of_mem _ hz)) (by omega)
    refine ⟨s2, bl s ++ bs, ?_, ?_, ?_⟩
    · show Ev (fun k => (vcode_Ins_line.f k y.f0 y.f1 y.f2 y.f3 y.f4 nxt).bind fun s => if acc.size + s.size ≤ txtMax then textIns k nxt (r.map conv83) (acc ++ s) else none) s2
      refine Ev.bind (f := fun k s => if acc.size + s.size ≤ txtMax then textIns k nxt (r.map conv83) (acc ++ s) else none) h1 (Ev.congr (fun k => if_pos (by omega)) h2)
    · rw [e2, bl_app, List.append_assoc]
    · rw [e, List.length_cons]
      have h := adds_app (adds_line t ht) h3
      rw [Nat.add_comm 1 r.length] at h
      exact h
theorem head_ok (a d : ByteArray) (ha : (10 : UInt8) ∉ bl a) (hd : (10 : UInt8) ∉ bl d) (la : (bl a).length ≤ 21) (ld : (bl d).length ≤ 21) : Adds (bl (textHead a d)) 1 0 ∧ (textHead a d).size ≤ 100 := by
  have e : bl (textHead a d) = 98 :: (([108, 111, 99, 107, 32] ++ bl a ++ [32, 100, 101, 112, 116, 104, 32] ++ bl d) ++ [10]) := by
    unfold textHead
    rw [bl_app, bl_app, bl_app, bl_app]
    simp [bl]
  constructor
  · rw [e]
    refine adds_head 98 _ (by decide) (by decide) ?_
    simp only [List.mem_append, not_or]
    exact ⟨⟨⟨by decide, ha⟩, by decide⟩, hd⟩
  · rw [bl_size, e]
    simp only [List.length_cons, List.length_append, List.length_nil]
    omega
theorem blocks_ev : ∀ (l : List S80) (i : Nat) (acc : ByteArray), (∀ x ∈ l, BlkIn x) → acc.size ≤ 70000 → i + l.length ≤ 1000 →
    Ev (fun k => textBlocks k (l.map conv80) (i : Int) acc) none ∨ ∃ s bs, Ev (fun k => textBlocks k (l.map conv80) (i : Int) acc) (some s) ∧ bl s = bl acc ++ bs ∧ s.size ≤ 70000 ∧ Adds bs (l.length + szR l) (szR l)
  | [], i, acc, _, ha, _ => .inr ⟨acc, [], Ev.now _, by simp, ha, adds_nil⟩
  | x :: r, i, acc, hw, ha, hi => by
    have hx := hw x (List.mem_cons_self ..)
    rw [List.length_cons] at hi
    obtain ⟨a, ea, ha10, hal⟩ := itoa_w (i : Int) ⟨by omega, by omega⟩
    obtain ⟨d, ed, hd10, hdl⟩ := itoa_w x.f2 hx.deep
    obtain ⟨hA, hsz⟩ := head_ok a d ha10 hd10 hal hdl
    have hsz2 : (acc ++ textHead a d).size = acc.size + (textHead a d).size := by rw [bl_size, bl_app, List.length_append, ← bl_size, ← bl_size]
    obtain ⟨s2, bs, h2, e2, h3⟩ := ins_ev x.f1 hx.next hx.nextFew x.f0 (acc ++ textHead a d) hx.ins (by have := hx.few; unfold txtMax; omega)
    have hstep : ∀ k, textBlocks k ((x :: r).map conv80) (i : Int) acc = (textIns k x.f1 (x.f0.map conv83) (acc ++ textHead a d)).bind fun acc2 => if 65536 < acc2.size then some none else textBlocks k (r.map conv80) ((i : Int) + 1) acc2 := by
      intro k
      show ((itoaF (i : Int)).bind fun a => (itoaF x.f2).bind fun d => if acc.size + (textHead a d).size ≤ txtMax then
        ((textIns k x.f1 (x.f0.map conv83) (acc ++ textHead a d)).bind fun acc2 => if 65536 < acc2.size then some none else textBlocks k (r.map conv80) ((i : Int) + 1) acc2) else none) = _
      rw [ea, Option.bind_some, ed, Option.bind_some, if_pos (by unfold txtMax; omega)]
    by_cases hbig : 65536 < s2.size
    · left
      refine Ev.congr hstep (Ev.bind (f := fun k acc2 => if 65536 < acc2.size then some none else textBlocks k (r.map conv80) ((i : Int) + 1) acc2) h2 (Ev.congr (f := fun _ => some none) (fun k => if_pos hbig) (Ev.now _)))
    · have hadd : Adds (bl (textHead a d) ++ bs) (1 + x.f0.length) (0 + x.f0.length) := adds_app hA h3
      have hgo : ∀ v, Ev (fun k => textBlocks k (r.map conv80) ((i + 1 : Nat) : Int) s2) v → Ev (fun k => textBlocks k ((x :: r).map conv80) (i : Int) acc) v := fun v hv =>
        Ev.congr hstep (Ev.bind (f := fun k acc2 => if 65536 < acc2.size then some none else textBlocks k (r.map conv80) ((i : Int) + 1) acc2) h2 (Ev.congr (fun k => if_neg hbig) hv))
      rcases blocks_ev r (i + 1) s2 (fun z hz => hw z (List.mem_cons_of_mem _ hz)) (by omega) (by omega) with h | ⟨s, bs2, h4, e4, h5, h6⟩
      · exact .inl (hgo _ h)
      · right
        refine ⟨s, bl (textHead a d) ++ bs ++ bs2, hgo _ h4, ?_, h5, ?_⟩
        · rw [e4, e2, bl_app]
          simp only [List.append_assoc]
        · have h := adds_app hadd h6
          have e1 : 1 + x.f0.length + (r.length + szR r) = (x :: r).length + szR (x :: r) := by
            show _ = r.length + 1 + (x.f0.length + szR r)
            omega
          have e2 : 0 + x.f0.length + szR r = szR (x :: r) := by
            show _ = x.f0.length + szR r
            omega
          rw [e1, e2] at h
          exact h
theorem first_ok (a p : ByteArray) (res : Bool) (ha : (10 : UInt8) ∉ bl a) (hp : (10 : UInt8) ∉ bl p) (la : (bl a).length ≤ 21) (lp : (bl p).length ≤ 21) :
    Adds (bl (textFirst a p res ++ (⟨#[10]⟩ : ByteArray))) 1 0 ∧ (textFirst a p res).size ≤ 100 := by
  have e : ∃ t, bl (textFirst a p res) = 114 :: t ∧ (10 : UInt8) ∉ t ∧ t.length ≤ 90 := by
    have e1 : bl (textOne a p) = 114 :: ([101, 103, 115, 32] ++ bl a ++ [32, 112, 97, 114, 97, 109, 115, 32] ++ bl p) := by
      unfold textOne
      rw [bl_app, bl_app, bl_app]
      simp [bl]
    have h1 : (10 : UInt8) ∉ ([101, 103, 115, 32] ++ bl a ++ [32, 112, 97, 114, 97, 109, 115, 32] ++ bl p : List UInt8) := by
      simp only [List.mem_append, not_or]
      exact ⟨⟨⟨by decide, ha⟩, by decide⟩, hp⟩
    have e0 : bl ((⟨#[]⟩ : ByteArray) ++ textOne a p) = bl (textOne a p) := by rw [bl_app]; rfl
    cases res with
    | false =>
      refine ⟨_, (show bl (textFirst a p false) = _ from e0.trans e1), h1, ?_⟩
      simp only [List.length_cons, List.length_append, List.length_nil]
      omega
    | true =>
      refine ⟨_, (show bl (textFirst a p true) = 114 :: (([101, 103, 115, 32] ++ bl a ++ [32, 112, 97, 114, 97, 109, 115, 32] ++ bl p) ++ [32, 114, 101, 115, 117, 108, 116]) from ?_), ?_, ?_⟩
      · show bl (((⟨#[]⟩ : ByteArray) ++ textOne a p) ++ (⟨#[32, 114, 101, 115, 117, 108, 116]⟩ : ByteArray)) = _
        rw [bl_app, e0, e1]
        rfl
      · rw [List.mem_append, not_or]
        exact ⟨h1, by decide⟩
      · simp only [List.length_cons, List.length_append, List.length_nil]
        omega
  obtain ⟨t, e, h1, h2⟩ := e
  constructor
  · rw [bl_app, e]
    exact adds_head 114 t (by decide) (by decide) h1
  · rw [bl_size, e, List.length_cons]
    omega
def tEnd : Option ByteArray → Option (ByteArray × Option Int)
  | none => some ((⟨#[]⟩ : ByteArray), some 2)
  | some b => some (b, none)
def eEnd (x : Option (Option ByteArray)) : Option Int → Option (ByteArray × Option Int)
  | some n => some ((⟨#[]⟩ : ByteArray), some n)
  | none => x.bind tEnd
theorem text_ev (p r : Int) (b : Bool) (l : List S80) (G : Good p r b l) (hw : ∀ x ∈ l, BlkIn x) :
    Ev (fun k => vcode_Text.f k p r b (l.map conv80)) ((⟨#[]⟩ : ByteArray), some 2) ∨ ∃ s, Ev (fun k => vcode_Text.f k p r b (l.map conv80)) (s, none) ∧ s.size ≤ 70000 ∧ cnt true (bl s) = (1 + l.length + szR l, szR l) := by
  have hr := G.regs
  have hm := G.many
  obtain ⟨a, ea, ha10, hal⟩ := itoa_w r ⟨by omega, by omega⟩
  obtain ⟨d, ed, hd10, hdl⟩ := itoa_w p ⟨by omega, by omega⟩
  obtain ⟨hA, hsz⟩ := first_ok a d b ha10 hd10 hal hdl
  have hsz2 : (textFirst a d b ++ (⟨#[10]⟩ : ByteArray)).size = (textFirst a d b).size + 1 := by rw [bl_size, bl_app, List.length_append, ← bl_size]; rfl
  have hgo : ∀ v w, Ev (fun k => textBlocks k (l.map conv80) ((0 : Nat) : Int) (textFirst a d b ++ (⟨#[10]⟩ : ByteArray))) v → tEnd v = some w → Ev (fun k => vcode_Text.f k p r b (l.map conv80)) w := by
    intro v w hv hvw
    have hstep : ∀ k, vcode_Text.f k p r b (l.map conv80) = (vcode_Check.f k p r b (l.map conv80)).bind (eEnd (textBlocks k (l.map conv80) ((0 : Nat) : Int) (textFirst a d b ++ (⟨#[10]⟩ : ByteArray)))) := by
      intro k
      unfold vcode_Text.f
      rw [ea, Option.bind_some, ed, Option.bind_some, if_pos (by unfold txtMax; omega)]
      refine congrArg (Option.bind _) (funext fun e => ?_)
      cases e with
      | some n => rfl
      | none =>
        refine congrArg (Option.bind _) (funext fun t => ?_)
        cases t <;> rfl
    refine Ev.congr hstep (Ev.bind (a := none) (f := fun k e => eEnd (textBlocks k (l.map conv80) ((0 : Nat) : Int) (textFirst a d b ++ (⟨#[10]⟩ : ByteArray))) e) (check_is p r b l G) ?_)
    refine Ev.congr (fun k => rfl) (Ev.bind (f := fun _ t => tEnd t) hv ?_)
    rw [hvw]
    exact Ev.now _
  rcases blocks_ev l 0 (textFirst a d b ++ (⟨#[10]⟩ : ByteArray)) hw (by omega) (by omega) with h | ⟨s, bs, h1, e1, h2, h3⟩
  · exact .inl (hgo _ _ h rfl)
  · refine .inr ⟨s, hgo _ _ h1 rfl, h2, ?_⟩
    have h := adds_app hA h3 []
    rw [List.append_nil, ← e1] at h
    rw [h]
    simp only [cnt, Prod.mk.injEq]
    omega
def nlAt (s : ByteArray) (i : Nat) : Bool := i == 0 || (bl s)[i - 1]? == some 10
theorem bt_bl (s : ByteArray) (i : Nat) (h : i < (bl s).length) : bt s (i : Int) = (((bl s)[i]'h).toNat : Int) := by
  have h' : (i : Int).toNat < s.size := by rw [bl_size]; simpa using h
  unfold bt
  rw [dif_pos h']
  rfl
theorem byte_eq (x : UInt8) (n : Nat) (hn : n < 256) : ((x.toNat : Int) = (n : Int)) ↔ x = UInt8.ofNat n := by
  constructor
  · intro h
    apply UInt8.toNat_inj.1
    rw [UInt8.toNat_ofNat']
    omega
  · rintro rfl
    rw [UInt8.toNat_ofNat']
    omega
theorem byte10 (x : UInt8) : ((x.toNat : Int) = 10) ↔ x = 10 := byte_eq x 10 (by omega)
theorem byte32 (x : UInt8) : ((x.toNat : Int) = 32) ↔ x = 32 := byte_eq x 32 (by omega)
theorem loop_step (s : ByteArray) (hs : s.size ≤ 100000) (p r : Int) (b : Bool) (l : List S80) (i a c : Nat) (hi : i < (bl s).length) (ha : a ≤ i) (hc : c ≤ i) (k : Nat) :
    mandrellaw11_VcodeLines.l0 (k + 1) s (a : Int) (c : Int) (i : Int) p r b l =
      mandrellaw11_VcodeLines.l0 k s ((a + (if (bl s)[i] = 10 then 1 else 0) : Nat) : Int) ((c + (if nlAt s i = true ∧ (bl s)[i] = 32 ∧ ((bl s).drop (i + 1)).head? = some 32 then 1 else 0) : Nat) : Int) ((i + 1 : Nat) : Int) p r b l := by
  have hz := bl_size s
  have e1 := w64n i (by omega)
  have e2 := w64n a (by omega)
  have e3 := w64n c (by omega)
  have t10 : bt s (i : Int) = 10 ↔ (bl s)[i] = 10 := by rw [bt_bl s i hi]; exact byte10 _
  have t32 : bt s (i : Int) = 32 ↔ (bl s)[i] = 32 := by rw [bt_bl s i hi]; exact byte32 _
  have f1 : (i : Int) < (s.size : Int) := by omega
  have f2 : (0 : Int) ≤ (i : Int) := by omega
  have f3 : (0 : Int) ≤ ((i + 1 : Nat) : Int) := by omega
  have hnext : ∀ h : i + 1 < (bl s).length, (bt s ((i + 1 : Nat) : Int) = 32 ↔ ((bl s).drop (i + 1)).head? = some 32) := by
    intro h
    rw [bt_bl s (i + 1) h, List.head?_drop, List.getElem?_eq_getElem h, Option.some.injEq]
    exact byte32 _
  have hnone : ¬ i + 1 < (bl s).length → ((bl s).drop (i + 1)).head? ≠ some 32 := by
    intro h
    rw [List.drop_eq_nil_of_le (by omega)]
    simp
  have hprev : i ≠ 0 → wrap64 ((i : Int) - 1) = ((i - 1 : Nat) : Int) := by
    intro h
    rw [w64 _ (by omega) (by omega)]
    omega
  have hnl0 : i = 0 → nlAt s i = true := by rintro rfl; rfl
  have hnl1 : i ≠ 0 → (bt s ((i - 1 : Nat) : Int) = 10 ↔ nlAt s i = true) := by
    intro h
    have h1 : i - 1 < (bl s).length := by omega
    unfold nlAt
    rw [bt_bl s (i - 1) h1, List.getElem?_eq_getElem h1, byte10]
    simp [h]
  generalize hX : ((bl s)[i]'hi) = x at t10 t32 ⊢
  generalize hN : ((bl s).drop (i + 1)).head? = nx at hnext hnone ⊢
  generalize hL : nlAt s i = nl at hnl0 hnl1 ⊢
  clear hX hN hL
  have f4 : i ≠ 0 → (0 : Int) ≤ ((i - 1 : Nat) : Int) := fun h => by omega
  have f5 : i ≠ 0 → ((i - 1 : Nat) : Int) < (s.size : Int) := fun h => by omega
  simp only [mandrellaw11_VcodeLines.l0]
  rw [e1, e2, e3, if_pos f1, if_pos f2]
  by_cases c10 : x = 10
  · have c32 : x ≠ 32 := by rw [c10]; decide
    have g10 := t10.2 c10
    have g32 : ¬ bt s (i : Int) = 32 := fun h => c32 (t32.1 h)
    rw [if_pos c10, if_neg (show ¬ (nl = true ∧ x = 32 ∧ nx = some 32) from fun h => c32 h.2.1), if_pos g10]
    by_cases hi0 : i = 0
    · have hi0' : (i : Int) = 0 := by omega
      rw [if_pos hi0']
      by_cases hn : ((i + 1 : Nat) : Int) < (s.size : Int)
      · rw [if_pos hn, if_neg g32]
        rfl
      · rw [if_neg hn]
        rfl
    · have hi0' : ¬ (i : Int) = 0 := by omega
      rw [if_neg hi0', hprev hi0, if_pos (f4 hi0), if_pos (f5 hi0)]
      by_cases hp : bt s ((i - 1 : Nat) : Int) = 10
      · rw [if_pos hp]
        by_cases hn : ((i + 1 : Nat) : Int) < (s.size : Int)
        · rw [if_pos hn, if_neg g32]
          rfl
        · rw [if_neg hn]
          rfl
      · rw [if_neg hp]
        rfl
  · have g10 : ¬ bt s (i : Int) = 10 := fun h => c10 (t10.1 h)
    rw [if_neg c10, if_neg g10]
    have inner : (nl = true) → (if ((i + 1 : Nat) : Int) < (s.size : Int) then (if bt s (i : Int) = 32 then (if (0 : Int) ≤ ((i + 1 : Nat) : Int) then (if bt s ((i + 1 : Nat) : Int) = 32 then
          mandrellaw11_VcodeLines.l0 k s (a : Int) ((c + 1 : Nat) : Int) ((i + 1 : Nat) : Int) p r b l else mandrellaw11_VcodeLines.l0 k s (a : Int) (c : Int) ((i + 1 : Nat) : Int) p r b l) else none)
          else mandrellaw11_VcodeLines.l0 k s (a : Int) (c : Int) ((i + 1 : Nat) : Int) p r b l) else mandrellaw11_VcodeLines.l0 k s (a : Int) (c : Int) ((i + 1 : Nat) : Int) p r b l) =
        mandrellaw11_VcodeLines.l0 k s ((a + 0 : Nat) : Int) ((c + (if nl = true ∧ x = 32 ∧ nx = some 32 then 1 else 0) : Nat) : Int) ((i + 1 : Nat) : Int) p r b l := by
      intro hnl
      by_cases hn : ((i + 1 : Nat) : Int) < (s.size : Int)
      · have hn' : i + 1 < (bl s).length := by omega
        rw [if_pos hn]
        by_cases c32 : x = 32
        · rw [if_pos (t32.2 c32), if_pos f3]
          by_cases c33 : bt s ((i + 1 : Nat) : Int) = 32
          · rw [if_pos c33, if_pos ⟨hnl, c32, (hnext hn').1 c33⟩]
            rfl
          · rw [if_neg c33, if_neg (show ¬ (nl = true ∧ x = 32 ∧ nx = some 32) from fun h => c33 ((hnext hn').2 h.2.2))]
            rfl
        · rw [if_neg (show ¬ bt s (i : Int) = 32 from fun h => c32 (t32.1 h)), if_neg (show ¬ (nl = true ∧ x = 32 ∧ nx = some 32) from fun h => c32 h.2.1)]
          rfl
      · have hn' : ¬ i + 1 < (bl s).length := by omega
        rw [if_neg hn, if_neg (show ¬ (nl = true ∧ x = 32 ∧ nx = some 32) from fun h => hnone hn' h.2.2)]
        rfl
    by_cases hi0 : i = 0
    · have hi0' : (i : Int) = 0 := by omega
      rw [if_pos hi0']
      exact inner (hnl0 hi0)
    · have hi0' : ¬ (i : Int) = 0 := by omega
      rw [if_neg hi0', hprev hi0, if_pos (f4 hi0), if_pos (f5 hi0)]
      by_cases hp : bt s ((i - 1 : Nat) : Int) = 10
      · rw [if_pos hp]
        exact inner ((hnl1 hi0).1 hp)
      · rw [if_neg hp, if_neg (show ¬ (nl = true ∧ x = 32 ∧ nx = some 32) from fun h => hp ((hnl1 hi0).2 h.1))]
        rfl
theorem loop_ev (s : ByteArray) (hs : s.size ≤ 100000) (p r : Int) (b : Bool) (l : List S80) (R : Nat → Nat → Bool)
    (H : ∀ a c : Nat, a ≤ 100000 → c ≤ 100000 → Ev (fun k => mandrellaw11_VcodeLines.l0 k s (a : Int) (c : Int) (s.size : Int) p r b l) (R a c)) :
    ∀ (d i a c : Nat), i + d = (bl s).length → a ≤ i → c ≤ i → Ev (fun k => mandrellaw11_VcodeLines.l0 k s (a : Int) (c : Int) (i : Int) p r b l) (R (a + (cnt (nlAt s i) ((bl s).drop i)).1) (c + (cnt (nlAt s i) ((bl s).drop i)).2)) := by
  have hz := bl_size s
  intro d
  induction d with
  | zero =>
    intro i a c hi ha hc
    rw [List.drop_eq_nil_of_le (by omega)]
    have h := H a c (by omega) (by omega)
    rw [hz, ← (show i = (bl s).length by omega)] at h
    exact h
  | succ d ih =>
    intro i a c hi ha hc
    have hil : i < (bl s).length := by omega
    have h := ih (i + 1) (a + (if (bl s)[i] = 10 then 1 else 0)) (c + (if nlAt s i = true ∧ (bl s)[i] = 32 ∧ ((bl s).drop (i + 1)).head? = some 32 then 1 else 0)) (by omega) (by split <;> omega) (by split <;> omega)
    have hnl : nlAt s (i + 1) = ((bl s)[i] == 10) := by
      unfold nlAt
      rw [show i + 1 - 1 = i from rfl, List.getElem?_eq_getElem hil]
      simp
    have e : (bl s).drop i = (bl s)[i] :: (bl s).drop (i + 1) := List.drop_eq_getElem_cons hil
    have e1 : (cnt (nlAt s i) ((bl s).drop i)) = ((cnt (nlAt s (i + 1)) ((bl s).drop (i + 1))).1 + (if (bl s)[i] = 10 then 1 else 0), (cnt (nlAt s (i + 1)) ((bl s).drop (i + 1))).2 + (if nlAt s i = true ∧ (bl s)[i] = 32 ∧ ((bl s).drop (i + 1)).head? = some 32 then 1 else 0)) := by
      rw [hnl, e]
      rfl
    rw [e1]
    rw [Nat.add_assoc, Nat.add_assoc, Nat.add_comm (if (bl s)[i] = 10 then 1 else 0), Nat.add_comm (if nlAt s i = true ∧ (bl s)[i] = 32 ∧ ((bl s).drop (i + 1)).head? = some 32 then 1 else 0)] at h
    exact Ev.step (loop_step s hs p r b l i a c hil ha hc) h
theorem sure_all (k : Nat) : mandrellaw11_sure.f (k + 60) = some true := by kernel_rfl
theorem sure_ev : Ev (fun k => mandrellaw11_sure.f k) true := ⟨60, fun k hk => by obtain ⟨m, rfl⟩ := Nat.exists_eq_add_of_le hk; rw [Nat.add_comm]; exact sure_all m⟩
theorem j0_true (p r : Int) (b : Bool) (l : List S80) : Ev (fun k => mandrellaw11_VcodeLines.j0 k true p r b l) true := by
  refine Ev.step (f := fun k => (mandrellaw11_sure.f k).bind fun t => some t) (fun k => ?_) (Ev.bind (f := fun _ t => some t) sure_ev (Ev.now _))
  simp only [mandrellaw11_VcodeLines.j0]
  rw [if_pos (by first | rfl | trivial)]
theorem i64_of {n : Int} (h : (Lit.int .i64 n).wf = true) : I64 n := by
  have := (Lit.wf_int_iff .i64 n).1 h
  exact this
theorem u8_of {n : Int} (h : (Lit.int .u8 n).wf = true) : 0 ≤ n ∧ n ≤ 255 := by
  have := (Lit.wf_int_iff .u8 n).1 h
  exact this
theorem VcodeLines : mandrellaw11_VcodeLines.Pure := by
  intro p r b l wp wr wl
  have hin : ∀ x ∈ l, x.f0.length ≤ maxLen := fun x hx => (wl.2 x hx).1.1
  refine Ev.rounds ?_
  have hf : ∀ k, mandrellaw11_VcodeLines.f k p r b l = (mandrellaw11_heavy.f k p r b l).bind fun t393 => (if t393 = true then (mandrellaw11_VcodeLines.j0 k true p r b l) else ((mandrelref11_May.f k p r b l).bind fun t394 => (mandrellaw11_VcodeLines.j0 k (!t394) p r b l))) := fun _ => rfl
  rcases heavy_is p r b l wl.1 hin with hh | ⟨hh, hlm, hfew, hbl⟩
  · refine Ev.congr hf (Ev.bind (f := fun k t393 => (if t393 = true then (mandrellaw11_VcodeLines.j0 k true p r b l) else ((mandrelref11_May.f k p r b l).bind fun t394 => (mandrellaw11_VcodeLines.j0 k (!t394) p r b l)))) hh ?_)
    exact Ev.congr (fun k => if_pos rfl) (j0_true p r b l)
  · refine Ev.congr hf (Ev.bind (f := fun k t393 => (if t393 = true then (mandrellaw11_VcodeLines.j0 k true p r b l) else ((mandrelref11_May.f k p r b l).bind fun t394 => (mandrellaw11_VcodeLines.j0 k (!t394) p r b l)))) hh ?_)
    refine Ev.congr (fun k => if_neg (by decide)) ?_
    have hfew' : ∀ x ∈ l, x.f0.length ≤ 1500 := fun x hx => by have := hfew x hx; omega
    have hmore := hvBlk_more l 0 (by omega) hbl
    obtain ⟨v, hv, hG⟩ := may_is p r b l hlm hfew' (fun x hx => ⟨(wl.2 x hx).1.1, (wl.2 x hx).2.1.1, fun y hy => by
      have w := (wl.2 x hx).1.2 y hy
      exact ⟨(u8_of w.1).1, (u8_of w.1).2, w.2.2.1.1⟩⟩)
    refine Ev.bind (f := fun k t394 => mandrellaw11_VcodeLines.j0 k (!t394) p r b l) hv ?_
    cases v with
    | false => exact j0_true p r b l
    | true =>
      have G := hG rfl
      have hB : ∀ x ∈ l, BlkIn x := fun x hx => ⟨hfew' x hx, fun y hy => by
          have w := (wl.2 x hx).1.2 y hy
          have hm := (hmore x hx).2 y hy
          exact ⟨u8_of w.1, i64_of w.2.1, fun z hz => i64_of (w.2.2.1.2 z hz), by omega, i64_of w.2.2.2.1⟩,
        fun z hz => i64_of ((wl.2 x hx).2.1.2 z hz), by have hm := (hmore x hx).1; omega, i64_of (wl.2 x hx).2.2⟩
      have hstep : ∀ k, mandrellaw11_VcodeLines.j0 (k + 1) (!true) p r b l = (mandrellaw11_giveCode.f k p r b l).bind fun bt396 => ((vcode_Text.f k bt396.1 bt396.2.1 bt396.2.2.1 bt396.2.2.2).bind fun bt402 => (if bt402.2.isNone = true then (mandrellaw11_VcodeLines.l0 k bt402.1 0 0 0 p r b l) else ((mandrellaw11_num.f (some (bt402.2.getD 0))).bind fun t408 => (if t408 = 2 then ((mandrellaw11_sure.f k).bind fun t409 => (some t409)) else (some false))))) := by
        intro k
        simp only [mandrellaw11_VcodeLines.j0]
        rw [if_neg (by decide)]
      refine Ev.step hstep (Ev.bind (f := fun k bt396 => ((vcode_Text.f k bt396.1 bt396.2.1 bt396.2.2.1 bt396.2.2.2).bind fun bt402 => (if bt402.2.isNone = true then (mandrellaw11_VcodeLines.l0 k bt402.1 0 0 0 p r b l) else ((mandrellaw11_num.f (some (bt402.2.getD 0))).bind fun t408 => (if t408 = 2 then ((mandrellaw11_sure.f k).bind fun t409 => (some t409)) else (some false)))))) (give_is p r b l hlm hfew') ?_)
      rcases text_ev p r b l G hB with ht | ⟨s, ht, hsz, hc⟩
      · refine Ev.bind (f := fun k bt402 => (if bt402.2.isNone = true then (mandrellaw11_VcodeLines.l0 k bt402.1 0 0 0 p r b l) else ((mandrellaw11_num.f (some (bt402.2.getD 0))).bind fun t408 => (if t408 = 2 then ((mandrellaw11_sure.f k).bind fun t409 => (some t409)) else (some false))))) ht ?_
        refine Ev.congr (f := fun k => (mandrellaw11_sure.f k).bind fun t => some t) (fun k => ?_) (Ev.bind (f := fun _ t => some t) sure_ev (Ev.now _))
        have hnum : mandrellaw11_num.f (some (2 : Int)) = some 2 := by decide +kernel
        show (if (some (2 : Int)).isNone = true then _ else ((mandrellaw11_num.f (some 2)).bind _)) = _
        rw [if_neg (by decide), hnum, Option.bind_some, if_pos rfl]
      · refine Ev.bind (f := fun k bt402 => (if bt402.2.isNone = true then (mandrellaw11_VcodeLines.l0 k bt402.1 0 0 0 p r b l) else ((mandrellaw11_num.f (some (bt402.2.getD 0))).bind fun t408 => (if t408 = 2 then ((mandrellaw11_sure.f k).bind fun t409 => (some t409)) else (some false))))) ht ?_
        refine Ev.congr (f := fun k => mandrellaw11_VcodeLines.l0 k s ((0 : Nat) : Int) ((0 : Nat) : Int) ((0 : Nat) : Int) p r b l) (fun k => if_pos rfl) ?_
        have hl := G.many
        have hsm := G.small
        have hend := loop_ev s (by omega) p r b l (fun a c => decide (a = 1 + l.length + szR l) && decide (c = szR l)) (by
          intro a c ha hc
          have hsz := sizeR_is p r b l hlm hfew'
          refine Ev.step (f := fun k => (mandrelref11_Size.f k p r b l).bind fun t405 => (if (a : Int) = (wrap64 ((wrap64 (1 + (l.length : Int))) + t405)) then ((mandrelref11_Size.f k p r b l).bind fun t406 => (if (c : Int) = t406 then ((mandrellaw11_sure.f k).bind fun t407 => (some t407)) else (some false))) else (some false))) (fun k => ?_)
            (Ev.bind (f := fun k t405 => (if (a : Int) = (wrap64 ((wrap64 (1 + (l.length : Int))) + t405)) then ((mandrelref11_Size.f k p r b l).bind fun t406 => (if (c : Int) = t406 then ((mandrellaw11_sure.f k).bind fun t407 => (some t407)) else (some false))) else (some false))) hsz ?_)
          · simp only [mandrellaw11_VcodeLines.l0]
            rw [if_neg (by omega)]
          · rw [w64 (1 + (l.length : Int)) (by omega) (by omega), w64 _ (by omega) (by omega)]
            by_cases q1 : a = 1 + l.length + szR l
            · refine Ev.congr (fun k => if_pos (by omega)) (Ev.bind (f := fun k t406 => (if (c : Int) = t406 then ((mandrellaw11_sure.f k).bind fun t407 => (some t407)) else (some false))) hsz ?_)
              by_cases q2 : c = szR l
              · rw [decide_eq_true q1, decide_eq_true q2]
                exact Ev.congr (fun k => if_pos (by omega)) (Ev.bind (f := fun _ t => some t) sure_ev (Ev.now _))
              · rw [decide_eq_false q2, Bool.and_false]
                exact Ev.congr (f := fun _ => some false) (fun k => if_neg (by omega)) (Ev.now _)
            · rw [decide_eq_false q1, Bool.false_and]
              exact Ev.congr (f := fun _ => some false) (fun k => if_neg (by omega)) (Ev.now _)) (bl s).length 0 0 0 (by omega) (by omega) (by omega)
        rw [show nlAt s 0 = true from rfl, List.drop_zero, hc] at hend
        have hR : (decide (0 + (1 + l.length + szR l, szR l).1 = 1 + l.length + szR l) && decide (0 + (1 + l.length + szR l, szR l).2 = szR l)) = true := by
          rw [decide_eq_true (by show 0 + (1 + l.length + szR l) = _; omega), decide_eq_true (by show 0 + szR l = _; omega)]
          rfl
        rw [hR] at hend
        exact hend
end Go.Proofs.YthgkeehpoilgaaaGreatDoor.Pure
end
section

end

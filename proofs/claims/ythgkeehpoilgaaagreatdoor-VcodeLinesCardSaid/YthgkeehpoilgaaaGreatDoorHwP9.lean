import Derived.Test.YthgkeehpoilgaaaGreatDoorHwP2
import Derived.Test.YthgkeehpoilgaaaGreatDoorHwP8
section
namespace Go.Proofs.YthgkeehpoilgaaaGreatDoor.Hw
open Go.RowKit Go.Proofs.YthgkeehpoilgaaaGreatDoorW.PrintWords Go.Proofs.YthgkeehpoilgaaaGreatDoorW.PrintLast Go.Proofs.YthgkeehpoilgaaaGreatDoorW.PrintMore
attribute [local go_sem] max2_int min2_int max_two min_two max_three min_three max_four min_four
set_option linter.unusedVariables false
set_option linter.unusedSimpArgs false
def ops_reckoned.j0 : Nat → Int → ByteArray → Bool → Option (List Int × Int)
 | 0, _, _, _ => none
 | k + 1, x3, x5, x33 => if x33 = true then (some ((([x3] : List Int)), x3)) else (if 0 ≤ 2 then (if 2 ≤ (x5.size : Int) then (if 1 + (x5.extract 0 2).size ≤ 9223372036854775807 then (if ((⟨#[32]⟩ : ByteArray) ++ (x5.extract 0 2)).size + 1 ≤ 9223372036854775807 then ((strings_Contains.f (⟨#[32, 101, 113, 32, 110, 101, 32, 108, 116, 32, 103, 116, 32, 108, 101, 32, 103, 101, 32]⟩ : ByteArray) (((⟨#[32]⟩ : ByteArray) ++ (x5.extract 0 2)) ++ (⟨#[32]⟩ : ByteArray))).bind fun t270 => (if t270 = true then (some ((([x3, x3] : List Int)), 127)) else (some ((([x3, x3] : List Int)), x3)))) else (none)) else (none)) else (none)) else (none))
def ops_reckoned.f (k : Nat) (a0 : ByteArray) : Option (List Int × Int) := (ops_own.f a0).bind fun t252 => ((strings_Cut.f a0 (⟨#[46]⟩ : ByteArray)).bind fun bt253 => ((strings_HasSuffix.f a0 (⟨#[95, 105, 54, 52]⟩ : ByteArray)).bind fun t256 => (if t256 = true then (some ((([126] : List Int)), t252)) else ((strings_Contains.f bt253.2.1 (⟨#[101, 120, 116, 101, 110, 100]⟩ : ByteArray)).bind fun t260 => (if t260 = true then (some ((([127] : List Int)), t252)) else (if bt253.2.1.toList = ([101, 113, 122] : List UInt8) then (some ((([t252] : List Int)), 127)) else (if bt253.2.1.toList = ([99, 108, 122] : List UInt8) then (ops_reckoned.j0 k t252 bt253.2.1 true) else (if bt253.2.1.toList = ([99, 116, 122] : List UInt8) then (ops_reckoned.j0 k t252 bt253.2.1 true) else (ops_reckoned.j0 k t252 bt253.2.1 (bt253.2.1.toList == ([112, 111, 112, 99, 110, 116] : List UInt8)))))))))))
set_option maxHeartbeats 8000000 in
set_option maxRecDepth 100000 in
theorem ops_reckoned.calls (k : Nat) (a0 : ByteArray) (r1 : List Int) (r2 : Int) (w : World) (hG : GG [0] w) (h : ops_reckoned.f k a0 = some (r1, r2)) :
  Calls Tryz.prog 123 #[.string a0] w fun e w' => ∃ v0_ : Value, e = .returned (.agg #[v0_, .int .u8 r2]) ∧ Kd.R (Kd.int .u8) 137 w' w.heap.size (fun _ => True) v0_ r1 ∧ Below w.heap.size w w' := by
 have hu139 := Tryz.underlying139
 have HB := Aside0.mk (Below.refl w.heap.size w)
 have HG := Aside0.mk hG
 clear hG
 have H : ((ops_own.f a0).bind fun t252 => ((strings_Cut.f a0 (⟨#[46]⟩ : ByteArray)).bind fun bt253 => ((strings_HasSuffix.f a0 (⟨#[95, 105, 54, 52]⟩ : ByteArray)).bind fun t256 => (if t256 = true then (some ((([126] : List Int)), t252)) else ((strings_Contains.f bt253.2.1 (⟨#[101, 120, 116, 101, 110, 100]⟩ : ByteArray)).bind fun t260 => (if t260 = true then (some ((([127] : List Int)), t252)) else (if bt253.2.1.toList = ([101, 113, 122] : List UInt8) then (some ((([t252] : List Int)), 127)) else (if bt253.2.1.toList = ([99, 108, 122] : List UInt8) then (ops_reckoned.j0 k t252 bt253.2.1 true) else (if bt253.2.1.toList = ([99, 116, 122] : List UInt8) then (ops_reckoned.j0 k t252 bt253.2.1 true) else (ops_reckoned.j0 k t252 bt253.2.1 (bt253.2.1.toList == ([112, 111, 112, 99, 110, 116] : List UInt8)))))))))))) = some (r1, r2) := h
 clear h
 replace H := Option.bind_eq_some_iff.mp H
 obtain ⟨t252, A20, H⟩ := H
 replace H : ((strings_Cut.f a0 (⟨#[46]⟩ : ByteArray)).bind fun bt253 => ((strings_HasSuffix.f a0 (⟨#[95, 105, 54, 52]⟩ : ByteArray)).bind fun t256 => (if t256 = true then (some ((([126] : List Int)), t252)) else ((strings_Contains.f bt253.2.1 (⟨#[101, 120, 116, 101, 110, 100]⟩ : ByteArray)).bind fun t260 => (if t260 = true then (some ((([127] : List Int)), t252)) else (if bt253.2.1.toList = ([101, 113, 122] : List UInt8) then (some ((([t252] : List Int)), 127)) else (if bt253.2.1.toList = ([99, 108, 122] : List UInt8) then (ops_reckoned.j0 k t252 bt253.2.1 true) else (if bt253.2.1.toList = ([99, 116, 122] : List UInt8) then (ops_reckoned.j0 k t252 bt253.2.1 true) else (ops_reckoned.j0 k t252 bt253.2.1 (bt253.2.1.toList == ([112, 111, 112, 99, 110, 116] : List UInt8))))))))))) = some (r1, r2) := H
 have A2 := Aside0.mk A20
 clear A20
 replace H := Option.bind_eq_some_iff.mp H
 obtain ⟨⟨t253, t254, t255⟩, A30, H⟩ := H
 replace H : ((strings_HasSuffix.f a0 (⟨#[95, 105, 54, 52]⟩ : ByteArray)).bind fun t256 => (if t256 = true then (some ((([126] : List Int)), t252)) else ((strings_Contains.f t254 (⟨#[101, 120, 116, 101, 110, 100]⟩ : ByteArray)).bind fun t260 => (if t260 = true then (some ((([127] : List Int)), t252)) else (if t254.toList = ([101, 113, 122] : List UInt8) then (some ((([t252] : List Int)), 127)) else (if t254.toList = ([99, 108, 122] : List UInt8) then (ops_reckoned.j0 k t252 t254 true) else (if t254.toList = ([99, 116, 122] : List UInt8) then (ops_reckoned.j0 k t252 t254 true) else (ops_reckoned.j0 k t252 t254 (t254.toList == ([112, 111, 112, 99, 110, 116] : List UInt8)))))))))) = some (r1, r2) := H
 have A3 := Aside0.mk A30
 clear A30
 replace H := Option.bind_eq_some_iff.mp H
 obtain ⟨t256, A40, H⟩ := H
 replace H : (if t256 = true then (some ((([126] : List Int)), t252)) else ((strings_Contains.f t254 (⟨#[101, 120, 116, 101, 110, 100]⟩ : ByteArray)).bind fun t260 => (if t260 = true then (some ((([127] : List Int)), t252)) else (if t254.toList = ([101, 113, 122] : List UInt8) then (some ((([t252] : List Int)), 127)) else (if t254.toList = ([99, 108, 122] : List UInt8) then (ops_reckoned.j0 k t252 t254 true) else (if t254.toList = ([99, 116, 122] : List UInt8) then (ops_reckoned.j0 k t252 t254 true) else (ops_reckoned.j0 k t252 t254 (t254.toList == ([112, 111, 112, 99, 110, 116] : List UInt8))))))))) = some (r1, r2) := H
 have A4 := Aside0.mk A40
 clear A40
 by_cases c5 : t256 = true
 ·subst c5
  have H1 : (some ((([126] : List Int)), t252)) = some (r1, r2) := Q14
  clear H
  have H := H1
  clear H1
  obtain ⟨y257, hy257⟩ : ∃ y_ : List Int, y_ = (([126] : List Int)) := ⟨_, rfl⟩
  replace H : (some (y257, t252)) = some (r1, r2) := by first | (rw [hy257]; with_reducible exact H) | (have H2_ := (Option.bind_some _ _).symm.trans H; rw [hy257]; with_reducible exact H2_) | (have H2_ := (Option.bind_some _ _).symm.trans H; with_reducible exact H2_) | with_reducible exact H | (rw [hy257]; exact H) | exact H
  have Ny257 := Aside0.mk hy257
  clear hy257
  simp only [Option.some.injEq, Prod.mk.injEq] at H
  obtain ⟨rfl, rfl⟩ := H
  go_enter Tryz.func123, Tryz.ntmps123
  go_wp2_with (first | ((with_reducible refine gate_dst (N := 2) rfl ?_); refine box_event ?hg (N := 2) ?hd (cs := #[.slice none 0 0, .int .u8 0]) (t := 139) ?hr ?_; (case hd => rfl); (case hg => rfl); (case hr => first | (go_simp; done) | (go_simp; rfl)); intro gb251 hg w6 hbox hb; have n0_ := Aside0.mk (below_step Q1 hb); have n1_ := Aside0.mk (hbox); have n2_ := Aside0.mk ((Q155 : w.heap.size ≤ gb251)); have n3_ := Aside0.mk ((Q155 : w.heap.size ≤ gb251)); clear HB; have HB := n0_; have BK251 := n1_; have GW251 := n2_; have GE251 := n3_; clear n0_ n1_ n2_ n3_; clear hb hbox hg) | ((with_reducible refine gate_callee (f := 122) rfl ?_); refine goesL_ (some 8) rfl rfl Tryz.func122 Q0 rfl #[.string a0] rfl Q9 ?_; (with_reducible refine (ops_own.calls a0 t252 _ ?side1 A2.out).mono ?_); (case side1 => exact GG.nil _); rintro e w' ⟨rfl, ⟨nd, rfl⟩⟩; refine ⟨_, rfl, ?_⟩; (try (rw [drewN_self w6]; generalize hq_ : World.drewN w6 _ = w6; have n0_ : Aside0 (w6.heap[gb251]? = some (.cells #[.slice none 0 0, .int .u8 0] 139 (0, 0))) := ⟨Q157⟩; have n1_ : Aside0 (Below w.heap.size w w6) := ⟨Q158⟩; clear BK251 HB hq_; have BK251 := n0_; have HB := n1_; clear n0_ n1_))) | ((with_reducible refine gate_callee (f := 126) rfl ?_); refine goesL_ (some 11) rfl rfl Tryz.func126 Q0 rfl #[.string a0, .string (⟨#[46]⟩ : ByteArray)] rfl Q9 ?_; (with_reducible refine (strings_Cut.calls a0 (⟨#[46]⟩ : ByteArray) t253 t254 t255 _ ?side1 A3.out).mono ?_); (case side1 => exact GG.below Q21 HG.out); rintro e w' ⟨rfl, ⟨nd, rfl⟩⟩; refine ⟨_, rfl, ?_⟩; (try (rw [drewN_self w6]; generalize hq_ : World.drewN w6 _ = w6; have n0_ : Aside0 (w6.heap[gb251]? = some (.cells #[.slice none 0 0, .int .u8 0] 139 (0, 0))) := ⟨Q157⟩; have n1_ : Aside0 (Below w.heap.size w w6) := ⟨Q158⟩; clear BK251 HB hq_; have BK251 := n0_; have HB := n1_; clear n0_ n1_))) | ((with_reducible refine gate_callee (f := 127) rfl ?_); refine goesL_ (some 17) rfl rfl Tryz.func127 Q0 rfl #[.string a0, .string (⟨#[95, 105, 54, 52]⟩ : ByteArray)] rfl Q9 ?_; (with_reducible refine (strings_HasSuffix.calls a0 (⟨#[95, 105, 54, 52]⟩ : ByteArray) true _ ?side1 A4.out).mono ?_); (case side1 => exact GG.nil _); rintro e w' ⟨rfl, ⟨nd, rfl⟩⟩; refine ⟨_, rfl, ?_⟩; (try (rw [drewN_self w6]; generalize hq_ : World.drewN w6 _ = w6; have n0_ : Aside0 (w6.heap[gb251]? = some (.cells #[.slice none 0 0, .int .u8 0] 139 (0, 0))) := ⟨Q157⟩; have n1_ : Aside0 (Below w.heap.size w w6) := ⟨Q158⟩; clear BK251 HB hq_; have BK251 := n0_; have HB := n1_; clear n0_ n1_))) | ((with_reducible refine gate_dst (N := 18) rfl ?_); refine Kd.R_lit (Kd.int .u8) _ 137 ?hg (N := 18) ?hd (xs := ([126] : List Int)) (inner := [.int .u8 126]) (ok := fun _ => True) (okp := fun _ => True) ?hr ?hp (fun _ hk => hk) trivial (Below.refl _ _) (Nat.le_refl _) Q8 ?_; (case hd => rfl); (case hg => rfl); (case hr => first | (go_simp; done) | (go_simp; rfl)); (case hp => exact (Reps.one (show Kd.M (Kd.int .u8) _ _ _ 126 [.int .u8 126] from rfl) (Reps.none _ _))); intro v258 w7 ho8 hb hg_ hnew_; clear hg_ hnew_; (first | rw [← Ny257.out] at ho8 | (simp only [Int.reduceToNat] at ho8; rw [← Ny257.out] at ho8)); have n0_ := Aside0.mk (Kd.R_lower ho8 (below_size Q21)); have n1_ := Aside0.mk (blk_below (g := gb251) (o := .cells #[.slice none 0 0, .int .u8 0] 139 (0, 0)) Q30 hb); have n2_ := Aside0.mk (below_step Q21 hb); clear BK251; clear HB; have HO259 := n0_; have BK251 := n1_; have HB := n2_; clear n0_ n1_ n2_; clear hb ho8; obtain ⟨Ao9, co9, eo9⟩ := Kd.R_slice HO259.out; subst eo9; have hcz10_0 : w7.cell? ⟨gb251, 0, none⟩ = some (.slice none 0 0) := (blk_cell BK251.out 0).trans rfl; have hcz10_1 : w7.cell? ⟨gb251, 1, none⟩ = some (.int .u8 0) := (blk_cell BK251.out 1).trans rfl; have hfz10_0 := blk_frozen BK251.out 0; have hfz10_1 := blk_frozen BK251.out 1))
  refine bodyPost_ret (results_cell_row rfl _ _ gb251 139 #[.slice Ao9 y257.length co9, .int .u8 t252] (0, 0) _ rfl (by (with_reducible repeat (first | refine blk_drewN ?_ _ | refine blk_drew ?_ | refine blk_alloc ?_ _)); refine blk_put (cs := #[.slice Ao9 y257.length co9, .int .u8 0]) ?_ 1 _ rfl; (with_reducible repeat (first | refine blk_drewN ?_ _ | refine blk_drew ?_ | refine blk_alloc ?_ _)); refine blk_put (cs := #[.slice none 0 0, .int .u8 0]) ?_ 0 _ rfl; (with_reducible repeat (first | refine blk_drewN ?_ _ | refine blk_drew ?_ | refine blk_alloc ?_ _)); exact BK251.out) Tryz.underlying139 rfl Q0) rfl ?_
  exact ⟨_, Q6, by (with_reducible repeat (first | apply Kd.R_alloc | apply Kd.R_drewN | apply Kd.R_drew)); exact Kd.R_mono (Kd.R_far (p := ⟨gb251, 1, none⟩) (Kd.R_far (p := ⟨gb251, 0, none⟩) (Kd.R_types HO259.out BK251.out Q12) (fun _ hk => hk.2) (.slice Ao9 y257.length co9)) (fun _ hk => hk.2) (.int .u8 t252)) (fun _ hk => trivial), Q21⟩
 replace c5 := Bool.eq_false_iff.mpr c5
 subst c5
 have H1 : ((strings_Contains.f t254 (⟨#[101, 120, 116, 101, 110, 100]⟩ : ByteArray)).bind fun t260 => (if t260 = true then (some ((([127] : List Int)), t252)) else (if t254.toList = ([101, 113, 122] : List UInt8) then (some ((([t252] : List Int)), 127)) else (if t254.toList = ([99, 108, 122] : List UInt8) then (ops_reckoned.j0 k t252 t254 true) else (if t254.toList = ([99, 116, 122] : List UInt8) then (ops_reckoned.j0 k t252 t254 true) else (ops_reckoned.j0 k t252 t254 (t254.toList == ([112, 111, 112, 99, 110, 116] : List UInt8)))))))) = some (r1, r2) := by rw [if_neg (show ¬ (false = true) by decide)] at H; exact H
 clear H
 have H := H1
 clear H1
 replace H := Option.bind_eq_some_iff.mp H
 obtain ⟨t260, A110, H⟩ := H
 replace H : (if t260 = true then (some ((([127] : List Int)), t252)) else (if t254.toList = ([101, 113, 122] : List UInt8) then (some ((([t252] : List Int)), 127)) else (if t254.toList = ([99, 108, 122] : List UInt8) then (ops_reckoned.j0 k t252 t254 true) else (if t254.toList = ([99, 116, 122] : List UInt8) then (ops_reckoned.j0 k t252 t254 true) else (ops_reckoned.j0 k t252 t254 (t254.toList == ([112, 111, 112, 99, 110, 116] : List UInt8))))))) = some (r1, r2) := H
 have A11 := Aside0.mk A110
 clear A110
 by_cases c12 : t260 = true
 ·subst c12
  have H1 : (some ((([127] : List Int)), t252)) = some (r1, r2) := Q14
  clear H
  have H := H1
  clear H1
  obtain ⟨y261, hy261⟩ : ∃ y_ : List Int, y_ = (([127] : List Int)) := ⟨_, rfl⟩
  replace H : (some (y261, t252)) = some (r1, r2) := by first | (rw [hy261]; with_reducible exact H) | (have H2_ := (Option.bind_some _ _).symm.trans H; rw [hy261]; with_reducible exact H2_) | (have H2_ := (Option.bind_some _ _).symm.trans H; with_reducible exact H2_) | with_reducible exact H | (rw [hy261]; exact H) | exact H
  have Ny261 := Aside0.mk hy261
  clear hy261
  simp only [Option.some.injEq, Prod.mk.injEq] at H
  obtain ⟨rfl, rfl⟩ := H
  go_enter Tryz.func123, Tryz.ntmps123
  go_wp2_with (first | ((with_reducible refine gate_dst (N := 2) rfl ?_); refine box_event ?hg (N := 2) ?hd (cs := #[.slice none 0 0, .int .u8 0]) (t := 139) ?hr ?_; (case hd => rfl); (case hg => rfl); (case hr => first | (go_simp; done) | (go_simp; rfl)); intro gb251 hg w13 hbox hb; have n0_ := Aside0.mk (below_step Q1 hb); have n1_ := Aside0.mk (hbox); have n2_ := Aside0.mk ((Q155 : w.heap.size ≤ gb251)); have n3_ := Aside0.mk ((Q155 : w.heap.size ≤ gb251)); clear HB; have HB := n0_; have BK251 := n1_; have GW251 := n2_; have GE251 := n3_; clear n0_ n1_ n2_ n3_; clear hb hbox hg) | ((with_reducible refine gate_callee (f := 122) rfl ?_); refine goesL_ (some 8) rfl rfl Tryz.func122 Q0 rfl #[.string a0] rfl Q9 ?_; (with_reducible refine (ops_own.calls a0 t252 _ ?side1 A2.out).mono ?_); (case side1 => exact GG.nil _); rintro e w' ⟨rfl, ⟨nd, rfl⟩⟩; refine ⟨_, rfl, ?_⟩; (try (rw [drewN_self w13]; generalize hq_ : World.drewN w13 _ = w13; have n0_ : Aside0 (w13.heap[gb251]? = some (.cells #[.slice none 0 0, .int .u8 0] 139 (0, 0))) := ⟨Q157⟩; have n1_ : Aside0 (Below w.heap.size w w13) := ⟨Q158⟩; clear BK251 HB hq_; have BK251 := n0_; have HB := n1_; clear n0_ n1_))) | ((with_reducible refine gate_callee (f := 126) rfl ?_); refine goesL_ (some 11) rfl rfl Tryz.func126 Q0 rfl #[.string a0, .string (⟨#[46]⟩ : ByteArray)] rfl Q9 ?_; (with_reducible refine (strings_Cut.calls a0 (⟨#[46]⟩ : ByteArray) t253 t254 t255 _ ?side1 A3.out).mono ?_); (case side1 => exact GG.below Q21 HG.out); rintro e w' ⟨rfl, ⟨nd, rfl⟩⟩; refine ⟨_, rfl, ?_⟩; (try (rw [drewN_self w13]; generalize hq_ : World.drewN w13 _ = w13; have n0_ : Aside0 (w13.heap[gb251]? = some (.cells #[.slice none 0 0, .int .u8 0] 139 (0, 0))) := ⟨Q157⟩; have n1_ : Aside0 (Below w.heap.size w w13) := ⟨Q158⟩; clear BK251 HB hq_; have BK251 := n0_; have HB := n1_; clear n0_ n1_))) | ((with_reducible refine gate_callee (f := 127) rfl ?_); refine goesL_ (some 17) rfl rfl Tryz.func127 Q0 rfl #[.string a0, .string (⟨#[95, 105, 54, 52]⟩ : ByteArray)] rfl Q9 ?_; (with_reducible refine (strings_HasSuffix.calls a0 (⟨#[95, 105, 54, 52]⟩ : ByteArray) false _ ?side1 A4.out).mono ?_); (case side1 => exact GG.nil _); rintro e w' ⟨rfl, ⟨nd, rfl⟩⟩; refine ⟨_, rfl, ?_⟩; (try (rw [drewN_self w13]; generalize hq_ : World.drewN w13 _ = w13; have n0_ : Aside0 (w13.heap[gb251]? = some (.cells #[.slice none 0 0, .int .u8 0] 139 (0, 0))) := ⟨Q157⟩; have n1_ : Aside0 (Below w.heap.size w w13) := ⟨Q158⟩; clear BK251 HB hq_; have BK251 := n0_; have HB := n1_; clear n0_ n1_))) | ((with_reducible refine gate_callee (f := 128) rfl ?_); refine goesL_ (some 23) rfl rfl Tryz.func128 Q0 rfl #[.string t254, .string (⟨#[101, 120, 116, 101, 110, 100]⟩ : ByteArray)] rfl Q9 ?_; (with_reducible refine (strings_Contains.calls t254 (⟨#[101, 120, 116, 101, 110, 100]⟩ : ByteArray) true _ ?side1 A11.out).mono ?_); (case side1 => exact GG.below Q21 HG.out); rintro e w' ⟨rfl, ⟨nd, rfl⟩⟩; refine ⟨_, rfl, ?_⟩; (try (rw [drewN_self w13]; generalize hq_ : World.drewN w13 _ = w13; have n0_ : Aside0 (w13.heap[gb251]? = some (.cells #[.slice none 0 0, .int .u8 0] 139 (0, 0))) := ⟨Q157⟩; have n1_ : Aside0 (Below w.heap.size w w13) := ⟨Q158⟩; clear BK251 HB hq_; have BK251 := n0_; have HB := n1_; clear n0_ n1_))) | ((with_reducible refine gate_dst (N := 24) rfl ?_); refine Kd.R_lit (Kd.int .u8) _ 137 ?hg (N := 24) ?hd (xs := ([127] : List Int)) (inner := [.int .u8 127]) (ok := fun _ => True) (okp := fun _ => True) ?hr ?hp (fun _ hk => hk) trivial (Below.refl _ _) (Nat.le_refl _) Q8 ?_; (case hd => rfl); (case hg => rfl); (case hr => first | (go_simp; done) | (go_simp; rfl)); (case hp => exact (Reps.one (show Kd.M (Kd.int .u8) _ _ _ 127 [.int .u8 127] from rfl) (Reps.none _ _))); intro v262 w14 ho15 hb hg_ hnew_; clear hg_ hnew_; (first | rw [← Ny261.out] at ho15 | (simp only [Int.reduceToNat] at ho15; rw [← Ny261.out] at ho15)); have n0_ := Aside0.mk (Kd.R_lower ho15 (below_size Q21)); have n1_ := Aside0.mk (blk_below (g := gb251) (o := .cells #[.slice none 0 0, .int .u8 0] 139 (0, 0)) Q30 hb); have n2_ := Aside0.mk (below_step Q21 hb); clear BK251; clear HB; have HO263 := n0_; have BK251 := n1_; have HB := n2_; clear n0_ n1_ n2_; clear hb ho15; obtain ⟨Ao16, co16, eo16⟩ := Kd.R_slice HO263.out; subst eo16; have hcz17_0 : w14.cell? ⟨gb251, 0, none⟩ = some (.slice none 0 0) := (blk_cell BK251.out 0).trans rfl; have hcz17_1 : w14.cell? ⟨gb251, 1, none⟩ = some (.int .u8 0) := (blk_cell BK251.out 1).trans rfl; have hfz17_0 := blk_frozen BK251.out 0; have hfz17_1 := blk_frozen BK251.out 1))
  refine bodyPost_ret (results_cell_row rfl _ _ gb251 139 #[.slice Ao16 y261.length co16, .int .u8 t252] (0, 0) _ rfl (by (with_reducible repeat (first | refine blk_drewN ?_ _ | refine blk_drew ?_ | refine blk_alloc ?_ _)); refine blk_put (cs := #[.slice Ao16 y261.length co16, .int .u8 0]) ?_ 1 _ rfl; (with_reducible repeat (first | refine blk_drewN ?_ _ | refine blk_drew ?_ | refine blk_alloc ?_ _)); refine blk_put (cs := #[.slice none 0 0, .int .u8 0]) ?_ 0 _ rfl; (with_reducible repeat (first | refine blk_drewN ?_ _ | refine blk_drew ?_ | refine blk_alloc ?_ _)); exact BK251.out) Tryz.underlying139 rfl Q0) rfl ?_
  exact ⟨_, Q6, by (with_reducible repeat (first | apply Kd.R_alloc | apply Kd.R_drewN | apply Kd.R_drew)); exact Kd.R_mono (Kd.R_far (p := ⟨gb251, 1, none⟩) (Kd.R_far (p := ⟨gb251, 0, none⟩) (Kd.R_types HO263.out BK251.out Q12) (fun _ hk => hk.2) (.slice Ao16 y261.length co16)) (fun _ hk => hk.2) (.int .u8 t252)) (fun _ hk => trivial), Q21⟩
 replace c12 := Bool.eq_false_iff.mpr c12
 subst c12
 have H1 : (if t254.toList = ([101, 113, 122] : List UInt8) then (some ((([t252] : List Int)), 127)) else (if t254.toList = ([99, 108, 122] : List UInt8) then (ops_reckoned.j0 k t252 t254 true) else (if t254.toList = ([99, 116, 122] : List UInt8) then (ops_reckoned.j0 k t252 t254 true) else (ops_reckoned.j0 k t252 t254 (t254.toList == ([112, 111, 112, 99, 110, 116] : List UInt8)))))) = some (r1, r2) := by rw [if_neg (show ¬ (false = true) by decide)] at H; exact H
 clear H
 have H := H1
 clear H1
 by_cases c18 : t254.toList = ([101, 113, 122] : List UInt8)
 ·rw [if_pos c18] at H
  have c18b0 : (t254.toList == ([101, 113, 122] : List UInt8)) = true := beq_iff_eq.mpr c18
  have c18b1 : (t254.toList != ([101, 113, 122] : List UInt8)) = false := bne_eq_false_iff_eq.mpr c18
  clear c18
  obtain ⟨y264, hy264⟩ : ∃ y_ : List Int, y_ = (([t252] : List Int)) := ⟨_, rfl⟩
  replace H : (some (y264, 127)) = some (r1, r2) := by first | (rw [hy264]; with_reducible exact H) | (have H2_ := (Option.bind_some _ _).symm.trans H; rw [hy264]; with_reducible exact H2_) | (have H2_ := (Option.bind_some _ _).symm.trans H; with_reducible exact H2_) | with_reducible exact H | (rw [hy264]; exact H) | exact H
  have Ny264 := Aside0.mk hy264
  clear hy264
  simp only [Option.some.injEq, Prod.mk.injEq] at H
  obtain ⟨rfl, rfl⟩ := H
  go_enter Tryz.func123, Tryz.ntmps123
  go_wp2_with (first | ((with_reducible refine gate_dst (N := 2) rfl ?_); refine box_event ?hg (N := 2) ?hd (cs := #[.slice none 0 0, .int .u8 0]) (t := 139) ?hr ?_; (case hd => rfl); (case hg => rfl); (case hr => first | (go_simp; done) | (go_simp; rfl)); intro gb251 hg w19 hbox hb; have n0_ := Aside0.mk (below_step Q1 hb); have n1_ := Aside0.mk (hbox); have n2_ := Aside0.mk ((Q155 : w.heap.size ≤ gb251)); have n3_ := Aside0.mk ((Q155 : w.heap.size ≤ gb251)); clear HB; have HB := n0_; have BK251 := n1_; have GW251 := n2_; have GE251 := n3_; clear n0_ n1_ n2_ n3_; clear hb hbox hg) | ((with_reducible refine gate_callee (f := 122) rfl ?_); refine goesL_ (some 8) rfl rfl Tryz.func122 Q0 rfl #[.string a0] rfl Q9 ?_; (with_reducible refine (ops_own.calls a0 t252 _ ?side1 A2.out).mono ?_); (case side1 => exact GG.nil _); rintro e w' ⟨rfl, ⟨nd, rfl⟩⟩; refine ⟨_, rfl, ?_⟩; (try (rw [drewN_self w19]; generalize hq_ : World.drewN w19 _ = w19; have n0_ : Aside0 (w19.heap[gb251]? = some (.cells #[.slice none 0 0, .int .u8 0] 139 (0, 0))) := ⟨Q157⟩; have n1_ : Aside0 (Below w.heap.size w w19) := ⟨Q158⟩; clear BK251 HB hq_; have BK251 := n0_; have HB := n1_; clear n0_ n1_))) | ((with_reducible refine gate_callee (f := 126) rfl ?_); refine goesL_ (some 11) rfl rfl Tryz.func126 Q0 rfl #[.string a0, .string (⟨#[46]⟩ : ByteArray)] rfl Q9 ?_; (with_reducible refine (strings_Cut.calls a0 (⟨#[46]⟩ : ByteArray) t253 t254 t255 _ ?side1 A3.out).mono ?_); (case side1 => exact GG.below Q21 HG.out); rintro e w' ⟨rfl, ⟨nd, rfl⟩⟩; refine ⟨_, rfl, ?_⟩; (try (rw [drewN_self w19]; generalize hq_ : World.drewN w19 _ = w19; have n0_ : Aside0 (w19.heap[gb251]? = some (.cells #[.slice none 0 0, .int .u8 0] 139 (0, 0))) := ⟨Q157⟩; have n1_ : Aside0 (Below w.heap.size w w19) := ⟨Q158⟩; clear BK251 HB hq_; have BK251 := n0_; have HB := n1_; clear n0_ n1_))) | ((with_reducible refine gate_callee (f := 127) rfl ?_); refine goesL_ (some 17) rfl rfl Tryz.func127 Q0 rfl #[.string a0, .string (⟨#[95, 105, 54, 52]⟩ : ByteArray)] rfl Q9 ?_; (with_reducible refine (strings_HasSuffix.calls a0 (⟨#[95, 105, 54, 52]⟩ : ByteArray) false _ ?side1 A4.out).mono ?_); (case side1 => exact GG.nil _); rintro e w' ⟨rfl, ⟨nd, rfl⟩⟩; refine ⟨_, rfl, ?_⟩; (try (rw [drewN_self w19]; generalize hq_ : World.drewN w19 _ = w19; have n0_ : Aside0 (w19.heap[gb251]? = some (.cells #[.slice none 0 0, .int .u8 0] 139 (0, 0))) := ⟨Q157⟩; have n1_ : Aside0 (Below w.heap.size w w19) := ⟨Q158⟩; clear BK251 HB hq_; have BK251 := n0_; have HB := n1_; clear n0_ n1_))) | ((with_reducible refine gate_callee (f := 128) rfl ?_); refine goesL_ (some 23) rfl rfl Tryz.func128 Q0 rfl #[.string t254, .string (⟨#[101, 120, 116, 101, 110, 100]⟩ : ByteArray)] rfl Q9 ?_; (with_reducible refine (strings_Contains.calls t254 (⟨#[101, 120, 116, 101, 110, 100]⟩ : ByteArray) false _ ?side1 A11.out).mono ?_); (case side1 => exact GG.below Q21 HG.out); rintro e w' ⟨rfl, ⟨nd, rfl⟩⟩; refine ⟨_, rfl, ?_⟩; (try (rw [drewN_self w19]; generalize hq_ : World.drewN w19 _ = w19; have n0_ : Aside0 (w19.heap[gb251]? = some (.cells #[.slice none 0 0, .int .u8 0] 139 (0, 0))) := ⟨Q157⟩; have n1_ : Aside0 (Below w.heap.size w w19) := ⟨Q158⟩; clear BK251 HB hq_; have BK251 := n0_; have HB := n1_; clear n0_ n1_))) | ((with_reducible refine gate_dst (N := 31) rfl ?_); refine Kd.R_lit (Kd.int .u8) _ 137 ?hg (N := 31) ?hd (xs := ([t252] : List Int)) (inner := [.int .u8 t252]) (ok := fun _ => True) (okp := fun _ => True) ?hr ?hp (fun _ hk => hk) trivial (Below.refl _ _) (Nat.le_refl _) Q8 ?_; (case hd => rfl); (case hg => rfl); (case hr => first | (go_simp; done) | (go_simp; rfl)); (case hp => exact (Reps.one (show Kd.M (Kd.int .u8) _ _ _ t252 [.int .u8 t252] from rfl) (Reps.none _ _))); intro v265 w20 ho21 hb hg_ hnew_; clear hg_ hnew_; (first | rw [← Ny264.out] at ho21 | (simp only [Int.reduceToNat] at ho21; rw [← Ny264.out] at ho21)); have n0_ := Aside0.mk (Kd.R_lower ho21 (below_size Q21)); have n1_ := Aside0.mk (blk_below (g := gb251) (o := .cells #[.slice none 0 0, .int .u8 0] 139 (0, 0)) Q30 hb); have n2_ := Aside0.mk (below_step Q21 hb); clear BK251; clear HB; have HO266 := n0_; have BK251 := n1_; have HB := n2_; clear n0_ n1_ n2_; clear hb ho21; obtain ⟨Ao22, co22, eo22⟩ := Kd.R_slice HO266.out; subst eo22; have hcz23_0 : w20.cell? ⟨gb251, 0, none⟩ = some (.slice none 0 0) := (blk_cell BK251.out 0).trans rfl; have hcz23_1 : w20.cell? ⟨gb251, 1, none⟩ = some (.int .u8 0) := (blk_cell BK251.out 1).trans rfl; have hfz23_0 := blk_frozen BK251.out 0; have hfz23_1 := blk_frozen BK251.out 1))
  refine bodyPost_ret (results_cell_row rfl _ _ gb251 139 #[.slice Ao22 y264.length co22, .int .u8 127] (0, 0) _ rfl (by (with_reducible repeat (first | refine blk_drewN ?_ _ | refine blk_drew ?_ | refine blk_alloc ?_ _)); refine blk_put (cs := #[.slice Ao22 y264.length co22, .int .u8 0]) ?_ 1 _ rfl; (with_reducible repeat (first | refine blk_drewN ?_ _ | refine blk_drew ?_ | refine blk_alloc ?_ _)); refine blk_put (cs := #[.slice none 0 0, .int .u8 0]) ?_ 0 _ rfl; (with_reducible repeat (first | refine blk_drewN ?_ _ | refine blk_drew ?_ | refine blk_alloc ?_ _)); exact BK251.out) Tryz.underlying139 rfl Q0) rfl ?_
  exact ⟨_, Q6, by (with_reducible repeat (first | apply Kd.R_alloc | apply Kd.R_drewN | apply Kd.R_drew)); exact Kd.R_mono (Kd.R_far (p := ⟨gb251, 1, none⟩) (Kd.R_far (p := ⟨gb251, 0, none⟩) (Kd.R_types HO266.out BK251.out Q12) (fun _ hk => hk.2) (.slice Ao22 y264.length co22)) (fun _ hk => hk.2) (.int .u8 127)) (fun _ hk => trivial), Q21⟩
 rw [if_neg c18] at H
 have c18b0 : (t254.toList == ([101, 113, 122] : List UInt8)) = false := beq_eq_false_iff_ne.mpr c18
 have c18b1 : (t254.toList != ([101, 113, 122] : List UInt8)) = true := bne_iff_ne.mpr c18
 have HC24 := Aside0.mk H
 clear H
 go_enter Tryz.func123, Tryz.ntmps123
 go_upto_region 9 with (first | ((with_reducible refine gate_dst (N := 2) rfl ?_); refine box_event ?hg (N := 2) ?hd (cs := #[.slice none 0 0, .int .u8 0]) (t := 139) ?hr ?_; (case hd => rfl); (case hg => rfl); (case hr => first | (go_simp; done) | (go_simp; rfl)); intro gb251 hg w25 hbox hb; have n0_ := Aside0.mk (below_step Q1 hb); have n1_ := Aside0.mk (hbox); have n2_ := Aside0.mk ((Q155 : w.heap.size ≤ gb251)); have n3_ := Aside0.mk ((Q155 : w.heap.size ≤ gb251)); clear HB; have HB := n0_; have BK251 := n1_; have GW251 := n2_; have GE251 := n3_; clear n0_ n1_ n2_ n3_; clear hb hbox hg) | ((with_reducible refine gate_callee (f := 122) rfl ?_); refine goesL_ (some 8) rfl rfl Tryz.func122 Q0 rfl #[.string a0] rfl Q9 ?_; (with_reducible refine (ops_own.calls a0 t252 _ ?side1 A2.out).mono ?_); (case side1 => exact GG.nil _); rintro e w' ⟨rfl, ⟨nd, rfl⟩⟩; refine ⟨_, rfl, ?_⟩) | ((with_reducible refine gate_callee (f := 126) rfl ?_); refine goesL_ (some 11) rfl rfl Tryz.func126 Q0 rfl #[.string a0, .string (⟨#[46]⟩ : ByteArray)] rfl Q9 ?_; (with_reducible refine (strings_Cut.calls a0 (⟨#[46]⟩ : ByteArray) t253 t254 t255 _ ?side1 A3.out).mono ?_); (case side1 => exact GG.below Q21 HG.out); rintro e w' ⟨rfl, ⟨nd, rfl⟩⟩; refine ⟨_, rfl, ?_⟩) | ((with_reducible refine gate_callee (f := 127) rfl ?_); refine goesL_ (some 17) rfl rfl Tryz.func127 Q0 rfl #[.string a0, .string (⟨#[95, 105, 54, 52]⟩ : ByteArray)] rfl Q9 ?_; (with_reducible refine (strings_HasSuffix.calls a0 (⟨#[95, 105, 54, 52]⟩ : ByteArray) false _ ?side1 A4.out).mono ?_); (case side1 => exact GG.nil _); rintro e w' ⟨rfl, ⟨nd, rfl⟩⟩; refine ⟨_, rfl, ?_⟩) | ((with_reducible refine gate_callee (f := 128) rfl ?_); refine goesL_ (some 23) rfl rfl Tryz.func128 Q0 rfl #[.string t254, .string (⟨#[101, 120, 116, 101, 110, 100]⟩ : ByteArray)] rfl Q9 ?_; (with_reducible refine (strings_Contains.calls t254 (⟨#[101, 120, 116, 101, 110, 100]⟩ : ByteArray) false _ ?side1 A11.out).mono ?_); (case side1 => exact GG.below Q21 HG.out); rintro e w' ⟨rfl, ⟨nd, rfl⟩⟩; refine ⟨_, rfl, ?_⟩))
 (try simp only [Act.put, List.setIfInBounds_toArray, List.set_cons_zero, List.set_cons_succ])
 go_cut [33] (fun v33 wc => ∃ (kq : Nat) (x33_23 : Bool), v33 = .bool x33_23 ∧ Aside0 (ops_reckoned.j0 kq t252 t254 x33_23 = some (r1, r2)) ∧ Aside0 (kq ≤ k) ∧ Aside0 (wc.heap[gb251]? = some (.cells #[(.slice none 0 0), .int .u8 0] 139 (0, 0))) ∧ Aside0 (Below w.heap.size w wc))
 case first =>
  have H := HC24.out
  clear HC24
  by_cases c26 : t254.toList = ([99, 108, 122] : List UInt8)
  ·rw [if_pos c26] at H
   have c26b0 : (t254.toList == ([99, 108, 122] : List UInt8)) = true := beq_iff_eq.mpr c26
   have c26b1 : (t254.toList != ([99, 108, 122] : List UInt8)) = false := bne_eq_false_iff_eq.mpr c26
   clear c26
   (first | rw [c26b0] | (simp only [i64_w, i32_w]; rw [c26b0]) | skip)
   have H' := Aside0.mk H
   clear H
   go_wp2
   go_meet
   case rel => exact ⟨_, (true), Q3, H', ⟨Q15⟩, ⟨Q30⟩, ⟨Q21⟩⟩
  rw [if_neg c26] at H
  have c26b0 : (t254.toList == ([99, 108, 122] : List UInt8)) = false := beq_eq_false_iff_ne.mpr c26
  have c26b1 : (t254.toList != ([99, 108, 122] : List UInt8)) = true := bne_iff_ne.mpr c26
  (first | rw [c26b0] | (simp only [i64_w, i32_w]; rw [c26b0]) | skip)
  by_cases c27 : t254.toList = ([99, 116, 122] : List UInt8)
  ·rw [if_pos c27] at H
   have c27b0 : (t254.toList == ([99, 116, 122] : List UInt8)) = true := beq_iff_eq.mpr c27
   have c27b1 : (t254.toList != ([99, 116, 122] : List UInt8)) = false := bne_eq_false_iff_eq.mpr c27
   clear c27
   have H' := Aside0.mk H
   clear H
   go_wp2
   go_meet
   case rel => exact ⟨_, (true), Q3, H', ⟨Q15⟩, ⟨Q30⟩, ⟨Q21⟩⟩
  rw [if_neg c27] at H
  have c27b0 : (t254.toList == ([99, 116, 122] : List UInt8)) = false := beq_eq_false_iff_ne.mpr c27
  have c27b1 : (t254.toList != ([99, 116, 122] : List UInt8)) = true := bne_iff_ne.mpr c27
  have H' := Aside0.mk H
  clear H
  go_wp2
  go_meet
  case rel => exact ⟨_, ((t254.toList == ([112, 111, 112, 99, 110, 116] : List UInt8))), Q3, H', ⟨Q15⟩, ⟨Q30⟩, ⟨Q21⟩⟩
 case rest =>
  clear HC24
  try clear c5
  try clear c12
  try clear c18
  try clear c18b0
  try clear c18b1
  obtain ⟨kq, x33_23, rfl, HA, HJ23, BK251, HB⟩ := hcut
  cases kq with
  | zero => exact absurd HA.out (by simp [ops_reckoned.j0])
  | succ kj23 =>
   have H := HA.out
   clear HA
   simp only [ops_reckoned.j0] at H
   by_cases c28 : x33_23 = true
   ·subst c28
    have H1 : (some ((([t252] : List Int)), t252)) = some (r1, r2) := Q14
    clear H
    have H := H1
    clear H1
    obtain ⟨y267, hy267⟩ : ∃ y_ : List Int, y_ = (([t252] : List Int)) := ⟨_, rfl⟩
    replace H : (some (y267, t252)) = some (r1, r2) := by first | (rw [hy267]; with_reducible exact H) | (have H2_ := (Option.bind_some _ _).symm.trans H; rw [hy267]; with_reducible exact H2_) | (have H2_ := (Option.bind_some _ _).symm.trans H; with_reducible exact H2_) | with_reducible exact H | (rw [hy267]; exact H) | exact H
    have Ny267 := Aside0.mk hy267
    clear hy267
    simp only [Option.some.injEq, Prod.mk.injEq] at H
    obtain ⟨rfl, rfl⟩ := H
    go_wp2_with (first | ((with_reducible refine gate_dst (N := 45) rfl ?_); refine Kd.R_lit (Kd.int .u8) _ 137 ?hg (N := 45) ?hd (xs := ([t252] : List Int)) (inner := [.int .u8 t252]) (ok := fun _ => True) (okp := fun _ => True) ?hr ?hp (fun _ hk => hk) trivial (Below.refl _ _) (Nat.le_refl _) Q8 ?_; (case hd => rfl); (case hg => rfl); (case hr => first | (go_simp; done) | (go_simp; rfl)); (case hp => exact (Reps.one (show Kd.M (Kd.int .u8) _ _ _ t252 [.int .u8 t252] from rfl) (Reps.none _ _))); intro v268 w29 ho30 hb hg_ hnew_; clear hg_ hnew_; (first | rw [← Ny267.out] at ho30 | (simp only [Int.reduceToNat] at ho30; rw [← Ny267.out] at ho30)); have n0_ := Aside0.mk (Kd.R_lower ho30 (below_size Q21)); have n1_ := Aside0.mk (blk_below (g := gb251) (o := .cells #[.slice none 0 0, .int .u8 0] 139 (0, 0)) Q30 hb); have n2_ := Aside0.mk (below_step Q21 hb); clear BK251; clear HB; have HO269 := n0_; have BK251 := n1_; have HB := n2_; clear n0_ n1_ n2_; clear hb ho30; obtain ⟨Ao31, co31, eo31⟩ := Kd.R_slice HO269.out; subst eo31; have hcz32_0 : w29.cell? ⟨gb251, 0, none⟩ = some (.slice none 0 0) := (blk_cell BK251.out 0).trans rfl; have hcz32_1 : w29.cell? ⟨gb251, 1, none⟩ = some (.int .u8 0) := (blk_cell BK251.out 1).trans rfl; have hfz32_0 := blk_frozen BK251.out 0; have hfz32_1 := blk_frozen BK251.out 1))
    refine bodyPost_ret (results_cell_row rfl _ _ gb251 139 #[.slice Ao31 y267.length co31, .int .u8 t252] (0, 0) _ rfl (by (with_reducible repeat (first | refine blk_drewN ?_ _ | refine blk_drew ?_ | refine blk_alloc ?_ _)); refine blk_put (cs := #[.slice Ao31 y267.length co31, .int .u8 0]) ?_ 1 _ rfl; (with_reducible repeat (first | refine blk_drewN ?_ _ | refine blk_drew ?_ | refine blk_alloc ?_ _)); refine blk_put (cs := #[.slice none 0 0, .int .u8 0]) ?_ 0 _ rfl; (with_reducible repeat (first | refine blk_drewN ?_ _ | refine blk_drew ?_ | refine blk_alloc ?_ _)); exact BK251.out) Tryz.underlying139 rfl Q0) rfl ?_
    exact ⟨_, Q6, by (with_reducible repeat (first | apply Kd.R_alloc | apply Kd.R_drewN | apply Kd.R_drew)); exact Kd.R_mono (Kd.R_far (p := ⟨gb251, 1, none⟩) (Kd.R_far (p := ⟨gb251, 0, none⟩) (Kd.R_types HO269.out BK251.out Q12) (fun _ hk => hk.2) (.slice Ao31 y267.length co31)) (fun _ hk => hk.2) (.int .u8 t252)) (fun _ hk => trivial), Q21⟩
   replace c28 := Bool.eq_false_iff.mpr c28
   subst c28
   have H1 : (if 0 ≤ 2 then (if 2 ≤ (t254.size : Int) then (if 1 + (t254.extract 0 2).size ≤ 9223372036854775807 then (if ((⟨#[32]⟩ : ByteArray) ++ (t254.extract 0 2)).size + 1 ≤ 9223372036854775807 then ((strings_Contains.f (⟨#[32, 101, 113, 32, 110, 101, 32, 108, 116, 32, 103, 116, 32, 108, 101, 32, 103, 101, 32]⟩ : ByteArray) (((⟨#[32]⟩ : ByteArray) ++ (t254.extract 0 2)) ++ (⟨#[32]⟩ : ByteArray))).bind fun t270 => (if t270 = true then (some ((([t252, t252] : List Int)), 127)) else (some ((([t252, t252] : List Int)), t252)))) else (none)) else (none)) else (none)) else (none)) = some (r1, r2) := by rw [if_neg (show ¬ (false = true) by decide)] at H; exact H
   clear H
   have H := H1
   clear H1
   by_cases c33 : 0 ≤ 2
   ·rw [if_pos c33] at H
    have c33b0 := eq_true c33
    have c33b1 : decide (0 ≤ 2) = true := decide_eq_true c33
    clear c33
    by_cases c34 : 2 ≤ (t254.size : Int)
    ·rw [if_pos c34] at H
     have c34b0 := eq_true c34
     have c34b1 : decide (2 ≤ (t254.size : Int)) = true := decide_eq_true c34
     clear c34
     by_cases c35 : 1 + (t254.extract 0 2).size ≤ 9223372036854775807
     ·rw [if_pos c35] at H
      have c35b0 := eq_true c35
      have c35b1 : decide (1 + (t254.extract 0 2).size ≤ 9223372036854775807) = true := decide_eq_true c35
      try have c35b2 : (9223372036854775807 < 1 + (t254.extract 0 2).size) = False := eq_false (Nat.not_lt.2 c35)
      by_cases c36 : ((⟨#[32]⟩ : ByteArray) ++ (t254.extract 0 2)).size + 1 ≤ 9223372036854775807
      ·rw [if_pos c36] at H
       have c36b0 := eq_true c36
       have c36b1 : decide (((⟨#[32]⟩ : ByteArray) ++ (t254.extract 0 2)).size + 1 ≤ 9223372036854775807) = true := decide_eq_true c36
       try have c36b2 : (9223372036854775807 < ((⟨#[32]⟩ : ByteArray) ++ (t254.extract 0 2)).size + 1) = False := eq_false (Nat.not_lt.2 c36)
       try (have c36q := c36; simp only [ByteArray.size_append, show (⟨#[32]⟩ : ByteArray).size = 1 from rfl] at c36q; have c36b3 := eq_false (Nat.not_lt.2 c36q); have c36b4 := eq_true c36q; have c36b5 := decide_eq_true c36q; clear c36q)
       replace H := Option.bind_eq_some_iff.mp H
       obtain ⟨t270, A370, H⟩ := H
       replace H : (if t270 = true then (some ((([t252, t252] : List Int)), 127)) else (some ((([t252, t252] : List Int)), t252))) = some (r1, r2) := H
       have A37 := Aside0.mk A370
       clear A370
       by_cases c38 : t270 = true
       ·subst c38
        have H1 : (some ((([t252, t252] : List Int)), 127)) = some (r1, r2) := Q14
        clear H
        have H := H1
        clear H1
        obtain ⟨y271, hy271⟩ : ∃ y_ : List Int, y_ = (([t252, t252] : List Int)) := ⟨_, rfl⟩
        replace H : (some (y271, 127)) = some (r1, r2) := by first | (rw [hy271]; with_reducible exact H) | (have H2_ := (Option.bind_some _ _).symm.trans H; rw [hy271]; with_reducible exact H2_) | (have H2_ := (Option.bind_some _ _).symm.trans H; with_reducible exact H2_) | with_reducible exact H | (rw [hy271]; exact H) | exact H
        have Ny271 := Aside0.mk hy271
        clear hy271
        simp only [Option.some.injEq, Prod.mk.injEq] at H
        obtain ⟨rfl, rfl⟩ := H
        go_wp2_with (first | ((with_reducible refine gate_callee (f := 128) rfl ?_); refine goesL_ (some 53) rfl rfl Tryz.func128 Q0 rfl #[.string (⟨#[32, 101, 113, 32, 110, 101, 32, 108, 116, 32, 103, 116, 32, 108, 101, 32, 103, 101, 32]⟩ : ByteArray), .string (((⟨#[32]⟩ : ByteArray) ++ (t254.extract 0 2)) ++ (⟨#[32]⟩ : ByteArray))] rfl Q9 ?_; (with_reducible refine (strings_Contains.calls (⟨#[32, 101, 113, 32, 110, 101, 32, 108, 116, 32, 103, 116, 32, 108, 101, 32, 103, 101, 32]⟩ : ByteArray) (((⟨#[32]⟩ : ByteArray) ++ (t254.extract 0 2)) ++ (⟨#[32]⟩ : ByteArray)) true _ ?side1 A37.out).mono ?_); (case side1 => exact GG.below Q21 HG.out); rintro e w' ⟨rfl, ⟨nd, rfl⟩⟩; refine ⟨_, rfl, ?_⟩; (try (rw [drewN_self wc]; generalize hq_ : World.drewN wc _ = wc; have n0_ : Aside0 (wc.heap[gb251]? = some (.cells #[.slice none 0 0, .int .u8 0] 139 (0, 0))) := ⟨Q157⟩; have n1_ : Aside0 (Below w.heap.size w wc) := ⟨Q158⟩; clear BK251 HB hq_; have BK251 := n0_; have HB := n1_; clear n0_ n1_))) | ((with_reducible refine gate_dst (N := 56) rfl ?_); refine Kd.R_lit (Kd.int .u8) _ 137 ?hg (N := 56) ?hd (xs := ([t252, t252] : List Int)) (inner := [.int .u8 t252, .int .u8 t252]) (ok := fun _ => True) (okp := fun _ => True) ?hr ?hp (fun _ hk => hk) trivial (Below.refl _ _) (Nat.le_refl _) Q8 ?_; (case hd => rfl); (case hg => rfl); (case hr => first | (go_simp; done) | (go_simp; rfl)); (case hp => exact (Reps.one (show Kd.M (Kd.int .u8) _ _ _ t252 [.int .u8 t252] from rfl) (Reps.one (show Kd.M (Kd.int .u8) _ _ _ t252 [.int .u8 t252] from rfl) (Reps.none _ _)))); intro v272 w39 ho40 hb hg_ hnew_; clear hg_ hnew_; (first | rw [← Ny271.out] at ho40 | (simp only [Int.reduceToNat] at ho40; rw [← Ny271.out] at ho40)); have n0_ := Aside0.mk (Kd.R_lower ho40 (below_size Q21)); have n1_ := Aside0.mk (blk_below (g := gb251) (o := .cells #[.slice none 0 0, .int .u8 0] 139 (0, 0)) Q30 hb); have n2_ := Aside0.mk (below_step Q21 hb); clear BK251; clear HB; have HO273 := n0_; have BK251 := n1_; have HB := n2_; clear n0_ n1_ n2_; clear hb ho40; obtain ⟨Ao41, co41, eo41⟩ := Kd.R_slice HO273.out; subst eo41; have hcz42_0 : w39.cell? ⟨gb251, 0, none⟩ = some (.slice none 0 0) := (blk_cell BK251.out 0).trans rfl; have hcz42_1 : w39.cell? ⟨gb251, 1, none⟩ = some (.int .u8 0) := (blk_cell BK251.out 1).trans rfl; have hfz42_0 := blk_frozen BK251.out 0; have hfz42_1 := blk_frozen BK251.out 1))
        refine bodyPost_ret (results_cell_row rfl _ _ gb251 139 #[.slice Ao41 y271.length co41, .int .u8 127] (0, 0) _ rfl (by (with_reducible repeat (first | refine blk_drewN ?_ _ | refine blk_drew ?_ | refine blk_alloc ?_ _)); refine blk_put (cs := #[.slice Ao41 y271.length co41, .int .u8 0]) ?_ 1 _ rfl; (with_reducible repeat (first | refine blk_drewN ?_ _ | refine blk_drew ?_ | refine blk_alloc ?_ _)); refine blk_put (cs := #[.slice none 0 0, .int .u8 0]) ?_ 0 _ rfl; (with_reducible repeat (first | refine blk_drewN ?_ _ | refine blk_drew ?_ | refine blk_alloc ?_ _)); exact BK251.out) Tryz.underlying139 rfl Q0) rfl ?_
        exact ⟨_, Q6, by (with_reducible repeat (first | apply Kd.R_alloc | apply Kd.R_drewN | apply Kd.R_drew)); exact Kd.R_mono (Kd.R_far (p := ⟨gb251, 1, none⟩) (Kd.R_far (p := ⟨gb251, 0, none⟩) (Kd.R_types HO273.out BK251.out Q12) (fun _ hk => hk.2) (.slice Ao41 y271.length co41)) (fun _ hk => hk.2) (.int .u8 127)) (fun _ hk => trivial), Q21⟩
       replace c38 := Bool.eq_false_iff.mpr c38
       subst c38
       have H1 : (some ((([t252, t252] : List Int)), t252)) = some (r1, r2) := by rw [if_neg (show ¬ (false = true) by decide)] at H; exact H
       clear H
       have H := H1
       clear H1
       obtain ⟨y274, hy274⟩ : ∃ y_ : List Int, y_ = (([t252, t252] : List Int)) := ⟨_, rfl⟩
       replace H : (some (y274, t252)) = some (r1, r2) := by first | (rw [hy274]; with_reducible exact H) | (have H2_ := (Option.bind_some _ _).symm.trans H; rw [hy274]; with_reducible exact H2_) | (have H2_ := (Option.bind_some _ _).symm.trans H; with_reducible exact H2_) | with_reducible exact H | (rw [hy274]; exact H) | exact H
       have Ny274 := Aside0.mk hy274
       clear hy274
       simp only [Option.some.injEq, Prod.mk.injEq] at H
       obtain ⟨rfl, rfl⟩ := H
       go_wp2_with (first | ((with_reducible refine gate_callee (f := 128) rfl ?_); refine goesL_ (some 53) rfl rfl Tryz.func128 Q0 rfl #[.string (⟨#[32, 101, 113, 32, 110, 101, 32, 108, 116, 32, 103, 116, 32, 108, 101, 32, 103, 101, 32]⟩ : ByteArray), .string (((⟨#[32]⟩ : ByteArray) ++ (t254.extract 0 2)) ++ (⟨#[32]⟩ : ByteArray))] rfl Q9 ?_; (with_reducible refine (strings_Contains.calls (⟨#[32, 101, 113, 32, 110, 101, 32, 108, 116, 32, 103, 116, 32, 108, 101, 32, 103, 101, 32]⟩ : ByteArray) (((⟨#[32]⟩ : ByteArray) ++ (t254.extract 0 2)) ++ (⟨#[32]⟩ : ByteArray)) false _ ?side1 A37.out).mono ?_); (case side1 => exact GG.below Q21 HG.out); rintro e w' ⟨rfl, ⟨nd, rfl⟩⟩; refine ⟨_, rfl, ?_⟩; (try (rw [drewN_self wc]; generalize hq_ : World.drewN wc _ = wc; have n0_ : Aside0 (wc.heap[gb251]? = some (.cells #[.slice none 0 0, .int .u8 0] 139 (0, 0))) := ⟨Q157⟩; have n1_ : Aside0 (Below w.heap.size w wc) := ⟨Q158⟩; clear BK251 HB hq_; have BK251 := n0_; have HB := n1_; clear n0_ n1_))) | ((with_reducible refine gate_dst (N := 60) rfl ?_); refine Kd.R_lit (Kd.int .u8) _ 137 ?hg (N := 60) ?hd (xs := ([t252, t252] : List Int)) (inner := [.int .u8 t252, .int .u8 t252]) (ok := fun _ => True) (okp := fun _ => True) ?hr ?hp (fun _ hk => hk) trivial (Below.refl _ _) (Nat.le_refl _) Q8 ?_; (case hd => rfl); (case hg => rfl); (case hr => first | (go_simp; done) | (go_simp; rfl)); (case hp => exact (Reps.one (show Kd.M (Kd.int .u8) _ _ _ t252 [.int .u8 t252] from rfl) (Reps.one (show Kd.M (Kd.int .u8) _ _ _ t252 [.int .u8 t252] from rfl) (Reps.none _ _)))); intro v275 w43 ho44 hb hg_ hnew_; clear hg_ hnew_; (first | rw [← Ny274.out] at ho44 | (simp only [Int.reduceToNat] at ho44; rw [← Ny274.out] at ho44)); have n0_ := Aside0.mk (Kd.R_lower ho44 (below_size Q21)); have n1_ := Aside0.mk (blk_below (g := gb251) (o := .cells #[.slice none 0 0, .int .u8 0] 139 (0, 0)) Q30 hb); have n2_ := Aside0.mk (below_step Q21 hb); clear BK251; clear HB; have HO276 := n0_; have BK251 := n1_; have HB := n2_; clear n0_ n1_ n2_; clear hb ho44; obtain ⟨Ao45, co45, eo45⟩ := Kd.R_slice HO276.out; subst eo45; have hcz46_0 : w43.cell? ⟨gb251, 0, none⟩ = some (.slice none 0 0) := (blk_cell BK251.out 0).trans rfl; have hcz46_1 : w43.cell? ⟨gb251, 1, none⟩ = some (.int .u8 0) := (blk_cell BK251.out 1).trans rfl; have hfz46_0 := blk_frozen BK251.out 0; have hfz46_1 := blk_frozen BK251.out 1))
       refine bodyPost_ret (results_cell_row rfl _ _ gb251 139 #[.slice Ao45 y274.length co45, .int .u8 t252] (0, 0) _ rfl (by (with_reducible repeat (first | refine blk_drewN ?_ _ | refine blk_drew ?_ | refine blk_alloc ?_ _)); refine blk_put (cs := #[.slice Ao45 y274.length co45, .int .u8 0]) ?_ 1 _ rfl; (with_reducible repeat (first | refine blk_drewN ?_ _ | refine blk_drew ?_ | refine blk_alloc ?_ _)); refine blk_put (cs := #[.slice none 0 0, .int .u8 0]) ?_ 0 _ rfl; (with_reducible repeat (first | refine blk_drewN ?_ _ | refine blk_drew ?_ | refine blk_alloc ?_ _)); exact BK251.out) Tryz.underlying139 rfl Q0) rfl ?_
       exact ⟨_, Q6, by (with_reducible repeat (first | apply Kd.R_alloc | apply Kd.R_drewN | apply Kd.R_drew)); exact Kd.R_mono (Kd.R_far (p := ⟨gb251, 1, none⟩) (Kd.R_far (p := ⟨gb251, 0, none⟩) (Kd.R_types HO276.out BK251.out Q12) (fun _ hk => hk.2) (.slice Ao45 y274.length co45)) (fun _ hk => hk.2) (.int .u8 t252)) (fun _ hk => trivial), Q21⟩
      rw [if_neg c36] at H
      exact absurd H Q8
     rw [if_neg c35] at H
     exact absurd H Q8
    rw [if_neg c34] at H
    exact absurd H Q8
   rw [if_neg c33] at H
   exact absurd H Q8
def ops_Sign.j0 : Nat → Int → ByteArray → Bool → Option (List Int × Int × Option Int)
 | 0, _, _, _ => none
 | k + 1, x0, x4, x7 => if x7 = true then (some (([] : List Int), 0, some 1)) else (if x0 ≤ 53 then ((ops_own.f x4).bind fun t282 => (some ((([127] : List Int)), t282, none))) else (if x0 ≤ 62 then ((ops_own.f x4).bind fun t283 => (some ((([127, t283] : List Int)), 0, none))) else (if x0 = 63 then (some (([] : List Int), 127, none)) else (if x0 = 64 then (some ((([127] : List Int)), 127, none)) else (if x0 ≤ 66 then ((ops_own.f x4).bind fun t290 => (some (([] : List Int), t290, none))) else ((ops_reckoned.f k x4).bind fun bt291 => (some (bt291.1, bt291.2, none))))))))
def ops_Sign.f (k : Nat) (a0 : Int) : Option (List Int × Int × Option Int) := (ops_Name.f a0).bind fun t278 => (if t278.toList = ([] : List UInt8) then (ops_Sign.j0 k a0 t278 true) else (ops_Sign.j0 k a0 t278 (decide (a0 < 40))))
set_option maxHeartbeats 8000000 in
set_option maxRecDepth 100000 in
theorem ops_Sign.calls (k : Nat) (a0 : Int) (r1 : List Int) (r2 : Int) (r3 : Option Int) (w : World) (hG : GG [0] w) (h : ops_Sign.f k a0 = some (r1, r2, r3)) :
  Calls Tryz.prog 115 #[.int .u8 a0] w fun e w' => ∃ v0_ : Value, e = .returned (.tuple #[.agg #[v0_, .int .u8 r2], errW r3]) ∧ Kd.R (Kd.int .u8) 137 w' w.heap.size (fun _ => True) v0_ r1 ∧ Below w.heap.size w w' := by
 have hu139 := Tryz.underlying139
 have hu30 := Tryz.underlying30
 have hu104 := Tryz.underlying104
 have HB := Aside0.mk (Below.refl w.heap.size w)
 have HG := Aside0.mk hG
 clear hG
 have H : ((ops_Name.f a0).bind fun t278 => (if t278.toList = ([] : List UInt8) then (ops_Sign.j0 k a0 t278 true) else (ops_Sign.j0 k a0 t278 (decide (a0 < 40))))) = some (r1, r2, r3) := h
 clear h
 replace H := Option.bind_eq_some_iff.mp H
 obtain ⟨t278, A20, H⟩ := H
 replace H : (if t278.toList = ([] : List UInt8) then (ops_Sign.j0 k a0 t278 true) else (ops_Sign.j0 k a0 t278 (decide (a0 < 40)))) = some (r1, r2, r3) := H
 have A2 := Aside0.mk A20
 clear A20
 have HC3 := Aside0.mk H
 clear H
 go_enter Tryz.func115, Tryz.ntmps115
 go_upto_region 2 with (first | ((with_reducible refine gate_dst (N := 2) rfl ?_); refine box_event ?hg (N := 2) ?hd (cs := #[.slice none 0 0, .int .u8 0]) (t := 139) ?hr ?_; (case hd => rfl); (case hg => rfl); (case hr => first | (go_simp; done) | (go_simp; rfl)); intro gb277 hg w4 hbox hb; have n0_ := Aside0.mk (below_step Q1 hb); have n1_ := Aside0.mk (hbox); have n2_ := Aside0.mk ((Q155 : w.heap.size ≤ gb277)); have n3_ := Aside0.mk ((Q155 : w.heap.size ≤ gb277)); clear HB; have HB := n0_; have BK277 := n1_; have GW277 := n2_; have GE277 := n3_; clear n0_ n1_ n2_ n3_; clear hb hbox hg) | ((with_reducible refine gate_callee (f := 98) rfl ?_); refine goesL_ (some 6) rfl rfl Tryz.func98 Q0 rfl #[.int .u8 a0] rfl Q9 ?_; (with_reducible refine (ops_Name.calls a0 t278 _ ?side1 A2.out).mono ?_); (case side1 => exact GG.nil _); rintro e w5 ⟨rfl, hb⟩; refine ⟨_, rfl, ?_⟩; have n0_ := Aside0.mk (blk_below (g := gb277) (o := .cells #[.slice none 0 0, .int .u8 0] 139 (0, 0)) Q45 hb); have n1_ := Aside0.mk (below_step Q31 hb); clear BK277; clear HB; have BK277 := n0_; have HB := n1_; clear n0_ n1_; (try clear hb); (try clear hb2); (try clear hk); (try clear hi)))
 (try simp only [Act.put, List.setIfInBounds_toArray, List.set_cons_zero, List.set_cons_succ])
 go_cut [7] (fun v7 wc => ∃ (kq : Nat) (x7_2 : Bool), v7 = .bool x7_2 ∧ Aside0 (ops_Sign.j0 kq a0 t278 x7_2 = some (r1, r2, r3)) ∧ Aside0 (kq ≤ k) ∧ Aside0 (wc.heap[gb277]? = some (.cells #[(.slice none 0 0), .int .u8 0] 139 (0, 0))) ∧ Aside0 (Below w.heap.size w wc))
 case first =>
  have H := HC3.out
  clear HC3
  by_cases c6 : t278.toList = ([] : List UInt8)
  ·rw [if_pos c6] at H
   have c6b0 : (t278.toList == ([] : List UInt8)) = true := beq_iff_eq.mpr c6
   have c6b1 : (t278.toList != ([] : List UInt8)) = false := bne_eq_false_iff_eq.mpr c6
   clear c6
   (first | rw [c6b0] | (simp only [i64_w, i32_w]; rw [c6b0]) | skip)
   have H' := Aside0.mk H
   clear H
   go_wp2
   go_meet
   case rel => exact ⟨_, (true), Q3, H', ⟨Q15⟩, ⟨Q45⟩, ⟨Q31⟩⟩
  rw [if_neg c6] at H
  have c6b0 : (t278.toList == ([] : List UInt8)) = false := beq_eq_false_iff_ne.mpr c6
  have c6b1 : (t278.toList != ([] : List UInt8)) = true := bne_iff_ne.mpr c6
  (first | rw [c6b0] | (simp only [i64_w, i32_w]; rw [c6b0]) | skip)
  have H' := Aside0.mk H
  clear H
  go_wp2
  go_meet
  case rel => exact ⟨_, (decide (a0 < 40)), Q3, H', ⟨Q15⟩, ⟨Q45⟩, ⟨Q31⟩⟩
 case rest =>
  clear HC3
  obtain ⟨kq, x7_2, rfl, HA, HJ2, BK277, HB⟩ := hcut
  cases kq with
  | zero => exact absurd HA.out (by simp [ops_Sign.j0])
  | succ kj2 =>
   have H := HA.out
   clear HA
   simp only [ops_Sign.j0] at H
   by_cases c7 : x7_2 = true
   ·subst c7
    have H1 : (some (([] : List Int), 0, some 1)) = some (r1, r2, r3) := Q14
    clear H
    have H := H1
    clear H1
    simp only [Option.some.injEq, Prod.mk.injEq] at H
    obtain ⟨rfl, rfl, rfl⟩ := H
    have ⟨hcz8_0, hcz8_1, hfz8_0, hfz8_1⟩ := blk2 BK277.out
    go_wp2
    refine bodyPost_ret (results_ct rfl _ _ gb277 139 #[.slice none 0 0, .int .u8 0] (0, 0) _ rfl Q84 Tryz.underlying139 rfl Q0) rfl ?_
    exact ⟨_, Q6, Q54, Q31⟩
   replace c7 := Bool.eq_false_iff.mpr c7
   subst c7
   have H1 : (if a0 ≤ 53 then ((ops_own.f t278).bind fun t282 => (some ((([127] : List Int)), t282, none))) else (if a0 ≤ 62 then ((ops_own.f t278).bind fun t283 => (some ((([127, t283] : List Int)), 0, none))) else (if a0 = 63 then (some (([] : List Int), 127, none)) else (if a0 = 64 then (some ((([127] : List Int)), 127, none)) else (if a0 ≤ 66 then ((ops_own.f t278).bind fun t290 => (some (([] : List Int), t290, none))) else ((ops_reckoned.f kj2 t278).bind fun bt291 => (some (bt291.1, bt291.2, none)))))))) = some (r1, r2, r3) := by rw [if_neg (show ¬ (false = true) by decide)] at H; exact H
   clear H
   have H := H1
   clear H1
   by_cases c9 : a0 ≤ 53
   ·rw [if_pos c9] at H
    have c9b0 : decide (a0 ≤ 53) = true := decide_eq_true c9
    clear c9
    obtain ⟨y279, hy279⟩ : ∃ y_ : List Int, y_ = (([127] : List Int)) := ⟨_, rfl⟩
    replace H : ((ops_own.f t278).bind fun t282 => (some (y279, t282, none))) = some (r1, r2, r3) := by first | (rw [hy279]; with_reducible exact H) | (have H2_ := (Option.bind_some _ _).symm.trans H; rw [hy279]; with_reducible exact H2_) | (have H2_ := (Option.bind_some _ _).symm.trans H; with_reducible exact H2_) | with_reducible exact H | (rw [hy279]; exact H) | exact H
    have Ny279 := Aside0.mk hy279
    clear hy279
    replace H := Option.bind_eq_some_iff.mp H
    obtain ⟨t282, A100, H⟩ := H
    replace H : (some (y279, t282, none)) = some (r1, r2, r3) := H
    have A10 := Aside0.mk A100
    clear A100
    simp only [Option.some.injEq, Prod.mk.injEq] at H
    obtain ⟨rfl, rfl, rfl⟩ := H
    go_wp2_with (first | ((with_reducible refine gate_dst (N := 19) rfl ?_); refine Kd.R_lit (Kd.int .u8) _ 137 ?hg (N := 19) ?hd (xs := ([127] : List Int)) (inner := [.int .u8 127]) (ok := fun _ => True) (okp := fun _ => True) ?hr ?hp (fun _ hk => hk) trivial (Below.refl _ _) (Nat.le_refl _) Q8 ?_; (case hd => rfl); (case hg => rfl); (case hr => first | (go_simp; done) | (go_simp; rfl)); (case hp => exact (Reps.one (show Kd.M (Kd.int .u8) _ _ _ 127 [.int .u8 127] from rfl) (Reps.none _ _))); intro v280 w11 ho12 hb hg_ hnew_; clear hg_ hnew_; (first | rw [← Ny279.out] at ho12 | (simp only [Int.reduceToNat] at ho12; rw [← Ny279.out] at ho12)); have n0_ := Aside0.mk (Kd.R_lower ho12 (below_size Q31)); have n1_ := Aside0.mk (blk_below (g := gb277) (o := .cells #[.slice none 0 0, .int .u8 0] 139 (0, 0)) Q45 hb); have n2_ := Aside0.mk (below_step Q31 hb); clear BK277; clear HB; have HO281 := n0_; have BK277 := n1_; have HB := n2_; clear n0_ n1_ n2_; clear hb ho12) | ((with_reducible refine gate_callee (f := 122) rfl ?_); refine goesL_ (some 21) rfl rfl Tryz.func122 Q0 rfl #[.string t278] rfl Q9 ?_; (with_reducible refine (ops_own.calls t278 t282 _ ?side1 A10.out).mono ?_); (case side1 => exact GG.nil _); rintro e w' ⟨rfl, ⟨nd, rfl⟩⟩; refine ⟨_, rfl, ?_⟩; (try (rw [drewN_self w11]; generalize hq_ : World.drewN w11 _ = w11; have n0_ : Aside0 (Kd.R (Kd.int .u8) 137 w11 w.heap.size (fun _ => True) v280 y279) := ⟨by rw [← hq_]; exact (by (with_reducible repeat (first | apply Kd.R_alloc | apply Kd.R_drewN | apply Kd.R_drew)); exact HO281.out)⟩; have n1_ : Aside0 (w11.heap[gb277]? = some (.cells #[.slice none 0 0, .int .u8 0] 139 (0, 0))) := ⟨by rw [← hq_]; exact Q45⟩; have n2_ : Aside0 (Below w.heap.size w w11) := ⟨by rw [← hq_]; exact Q31⟩; clear HO281 BK277 HB hq_; have HO281 := n0_; have BK277 := n1_; have HB := n2_; clear n0_ n1_ n2_)); obtain ⟨Ao13, co13, eo13⟩ := Kd.R_slice HO281.out; subst eo13; have hcz14_0 : w11.cell? ⟨gb277, 0, none⟩ = some (.slice none 0 0) := (blk_cell BK277.out 0).trans rfl; have hcz14_1 : w11.cell? ⟨gb277, 1, none⟩ = some (.int .u8 0) := (blk_cell BK277.out 1).trans rfl; have hfz14_0 := blk_frozen BK277.out 0; have hfz14_1 := blk_frozen BK277.out 1))
    refine bodyPost_ret (results_ct rfl _ _ gb277 139 #[.slice Ao13 y279.length co13, .int .u8 t282] (0, 0) _ rfl (by (with_reducible repeat (first | refine blk_drewN ?_ _ | refine blk_drew ?_ | refine blk_alloc ?_ _)); refine blk_put (cs := #[.slice Ao13 y279.length co13, .int .u8 0]) ?_ 1 _ rfl; (with_reducible repeat (first | refine blk_drewN ?_ _ | refine blk_drew ?_ | refine blk_alloc ?_ _)); refine blk_put (cs := #[.slice none 0 0, .int .u8 0]) ?_ 0 _ rfl; (with_reducible repeat (first | refine blk_drewN ?_ _ | refine blk_drew ?_ | refine blk_alloc ?_ _)); exact BK277.out) Tryz.underlying139 rfl Q0) rfl ?_
    exact ⟨_, Q6, by (with_reducible repeat (first | apply Kd.R_alloc | apply Kd.R_drewN | apply Kd.R_drew)); exact Kd.R_mono (Kd.R_far (p := ⟨gb277, 1, none⟩) (Kd.R_far (p := ⟨gb277, 0, none⟩) (Kd.R_types HO281.out BK277.out Q12) (fun _ hk => hk.2) (.slice Ao13 y279.length co13)) (fun _ hk => hk.2) (.int .u8 t282)) (fun _ hk => trivial), Q31⟩
   rw [if_neg c9] at H
   have c9b0 : decide (a0 ≤ 53) = false := decide_eq_false c9
   clear c9
   by_cases c15 : a0 ≤ 62
   ·rw [if_pos c15] at H
    have c15b0 : decide (a0 ≤ 62) = true := decide_eq_true c15
    clear c15
    replace H := Option.bind_eq_some_iff.mp H
    obtain ⟨t283, A160, H⟩ := H
    replace H : (some ((([127, t283] : List Int)), 0, none)) = some (r1, r2, r3) := H
    have A16 := Aside0.mk A160
    clear A160
    obtain ⟨y284, hy284⟩ : ∃ y_ : List Int, y_ = (([127, t283] : List Int)) := ⟨_, rfl⟩
    replace H : (some (y284, 0, none)) = some (r1, r2, r3) := by first | (rw [hy284]; with_reducible exact H) | (have H2_ := (Option.bind_some _ _).symm.trans H; rw [hy284]; with_reducible exact H2_) | (have H2_ := (Option.bind_some _ _).symm.trans H; with_reducible exact H2_) | with_reducible exact H | (rw [hy284]; exact H) | exact H
    have Ny284 := Aside0.mk hy284
    clear hy284
    simp only [Option.some.injEq, Prod.mk.injEq] at H
    obtain ⟨rfl, rfl, rfl⟩ := H
    go_wp2_with (first | ((with_reducible refine gate_callee (f := 122) rfl ?_); refine goesL_ (some 27) rfl rfl Tryz.func122 Q0 rfl #[.string t278] rfl Q9 ?_; (with_reducible refine (ops_own.calls t278 t283 _ ?side1 A16.out).mono ?_); (case side1 => exact GG.nil _); rintro e w' ⟨rfl, ⟨nd, rfl⟩⟩; refine ⟨_, rfl, ?_⟩; (try (rw [drewN_self wc]; generalize hq_ : World.drewN wc _ = wc; have n0_ : Aside0 (wc.heap[gb277]? = some (.cells #[.slice none 0 0, .int .u8 0] 139 (0, 0))) := ⟨by rw [← hq_]; exact Q45⟩; have n1_ : Aside0 (Below w.heap.size w wc) := ⟨by rw [← hq_]; exact Q31⟩; clear BK277 HB hq_; have BK277 := n0_; have HB := n1_; clear n0_ n1_))) | ((with_reducible refine gate_dst (N := 28) rfl ?_); refine Kd.R_lit (Kd.int .u8) _ 137 ?hg (N := 28) ?hd (xs := ([127, t283] : List Int)) (inner := [.int .u8 127, .int .u8 t283]) (ok := fun _ => True) (okp := fun _ => True) ?hr ?hp (fun _ hk => hk) trivial (Below.refl _ _) (Nat.le_refl _) Q8 ?_; (case hd => rfl); (case hg => rfl); (case hr => first | (go_simp; done) | (go_simp; rfl)); (case hp => exact (Reps.one (show Kd.M (Kd.int .u8) _ _ _ 127 [.int .u8 127] from rfl) (Reps.one (show Kd.M (Kd.int .u8) _ _ _ t283 [.int .u8 t283] from rfl) (Reps.none _ _)))); intro v285 w17 ho18 hb hg_ hnew_; clear hg_ hnew_; (first | rw [← Ny284.out] at ho18 | (simp only [Int.reduceToNat] at ho18; rw [← Ny284.out] at ho18)); have n0_ := Aside0.mk (Kd.R_lower ho18 (below_size Q31)); have n1_ := Aside0.mk (blk_below (g := gb277) (o := .cells #[.slice none 0 0, .int .u8 0] 139 (0, 0)) Q45 hb); have n2_ := Aside0.mk (below_step Q31 hb); clear BK277; clear HB; have HO286 := n0_; have BK277 := n1_; have HB := n2_; clear n0_ n1_ n2_; clear hb ho18; obtain ⟨Ao19, co19, eo19⟩ := Kd.R_slice HO286.out; subst eo19; have hcz20_0 : w17.cell? ⟨gb277, 0, none⟩ = some (.slice none 0 0) := (blk_cell BK277.out 0).trans rfl; have hcz20_1 : w17.cell? ⟨gb277, 1, none⟩ = some (.int .u8 0) := (blk_cell BK277.out 1).trans rfl; have hfz20_0 := blk_frozen BK277.out 0; have hfz20_1 := blk_frozen BK277.out 1))
    refine bodyPost_ret (results_ct rfl _ _ gb277 139 #[.slice Ao19 y284.length co19, .int .u8 0] (0, 0) _ rfl (by (with_reducible repeat (first | refine blk_drewN ?_ _ | refine blk_drew ?_ | refine blk_alloc ?_ _)); refine blk_put (cs := #[.slice Ao19 y284.length co19, .int .u8 0]) ?_ 1 _ rfl; (with_reducible repeat (first | refine blk_drewN ?_ _ | refine blk_drew ?_ | refine blk_alloc ?_ _)); refine blk_put (cs := #[.slice none 0 0, .int .u8 0]) ?_ 0 _ rfl; (with_reducible repeat (first | refine blk_drewN ?_ _ | refine blk_drew ?_ | refine blk_alloc ?_ _)); exact BK277.out) Tryz.underlying139 rfl Q0) rfl ?_
    exact ⟨_, Q6, by (with_reducible repeat (first | apply Kd.R_alloc | apply Kd.R_drewN | apply Kd.R_drew)); exact Kd.R_mono (Kd.R_far (p := ⟨gb277, 1, none⟩) (Kd.R_far (p := ⟨gb277, 0, none⟩) (Kd.R_types HO286.out BK277.out Q12) (fun _ hk => hk.2) (.slice Ao19 y284.length co19)) (fun _ hk => hk.2) (.int .u8 0)) (fun _ hk => trivial), Q31⟩
   rw [if_neg c15] at H
   have c15b0 : decide (a0 ≤ 62) = false := decide_eq_false c15
   clear c15
   by_cases c21 : a0 = 63
   ·rw [if_pos c21] at H
    have c21b0 : (a0 == 63) = true := beq_iff_eq.mpr c21
    have c21b1 : (a0 != 63) = false := bne_eq_false_iff_eq.mpr c21
    clear c21
    simp only [Option.some.injEq, Prod.mk.injEq] at H
    obtain ⟨rfl, rfl, rfl⟩ := H
    have ⟨hcz22_0, hcz22_1, hfz22_0, hfz22_1⟩ := blk2 BK277.out
    go_wp2
    refine bodyPost_ret (results_ct rfl _ _ gb277 139 #[.slice none 0 0, .int .u8 127] (0, 0) _ rfl Q84 Tryz.underlying139 rfl Q0) rfl ?_
    exact ⟨_, Q6, Q54, Q31⟩
   rw [if_neg c21] at H
   have c21b0 : (a0 == 63) = false := beq_eq_false_iff_ne.mpr c21
   have c21b1 : (a0 != 63) = true := bne_iff_ne.mpr c21
   by_cases c23 : a0 = 64
   ·rw [if_pos c23] at H
    have c23b0 : (a0 == 64) = true := beq_iff_eq.mpr c23
    have c23b1 : (a0 != 64) = false := bne_eq_false_iff_eq.mpr c23
    clear c23
    obtain ⟨y287, hy287⟩ : ∃ y_ : List Int, y_ = (([127] : List Int)) := ⟨_, rfl⟩
    replace H : (some (y287, 127, none)) = some (r1, r2, r3) := by first | (rw [hy287]; with_reducible exact H) | (have H2_ := (Option.bind_some _ _).symm.trans H; rw [hy287]; with_reducible exact H2_) | (have H2_ := (Option.bind_some _ _).symm.trans H; with_reducible exact H2_) | with_reducible exact H | (rw [hy287]; exact H) | exact H
    have Ny287 := Aside0.mk hy287
    clear hy287
    simp only [Option.some.injEq, Prod.mk.injEq] at H
    obtain ⟨rfl, rfl, rfl⟩ := H
    go_wp2_with (first | ((with_reducible refine gate_dst (N := 37) rfl ?_); refine Kd.R_lit (Kd.int .u8) _ 137 ?hg (N := 37) ?hd (xs := ([127] : List Int)) (inner := [.int .u8 127]) (ok := fun _ => True) (okp := fun _ => True) ?hr ?hp (fun _ hk => hk) trivial (Below.refl _ _) (Nat.le_refl _) Q8 ?_; (case hd => rfl); (case hg => rfl); (case hr => first | (go_simp; done) | (go_simp; rfl)); (case hp => exact (Reps.one (show Kd.M (Kd.int .u8) _ _ _ 127 [.int .u8 127] from rfl) (Reps.none _ _))); intro v288 w24 ho25 hb hg_ hnew_; clear hg_ hnew_; (first | rw [← Ny287.out] at ho25 | (simp only [Int.reduceToNat] at ho25; rw [← Ny287.out] at ho25)); have n0_ := Aside0.mk (Kd.R_lower ho25 (below_size Q31)); have n1_ := Aside0.mk (blk_below (g := gb277) (o := .cells #[.slice none 0 0, .int .u8 0] 139 (0, 0)) Q45 hb); have n2_ := Aside0.mk (below_step Q31 hb); clear BK277; clear HB; have HO289 := n0_; have BK277 := n1_; have HB := n2_; clear n0_ n1_ n2_; clear hb ho25; obtain ⟨Ao26, co26, eo26⟩ := Kd.R_slice HO289.out; subst eo26; have hcz27_0 : w24.cell? ⟨gb277, 0, none⟩ = some (.slice none 0 0) := (blk_cell BK277.out 0).trans rfl; have hcz27_1 : w24.cell? ⟨gb277, 1, none⟩ = some (.int .u8 0) := (blk_cell BK277.out 1).trans rfl; have hfz27_0 := blk_frozen BK277.out 0; have hfz27_1 := blk_frozen BK277.out 1))
    refine bodyPost_ret (results_ct rfl _ _ gb277 139 #[.slice Ao26 y287.length co26, .int .u8 127] (0, 0) _ rfl (by (with_reducible repeat (first | refine blk_drewN ?_ _ | refine blk_drew ?_ | refine blk_alloc ?_ _)); refine blk_put (cs := #[.slice Ao26 y287.length co26, .int .u8 0]) ?_ 1 _ rfl; (with_reducible repeat (first | refine blk_drewN ?_ _ | refine blk_drew ?_ | refine blk_alloc ?_ _)); refine blk_put (cs := #[.slice none 0 0, .int .u8 0]) ?_ 0 _ rfl; (with_reducible repeat (first | refine blk_drewN ?_ _ | refine blk_drew ?_ | refine blk_alloc ?_ _)); exact BK277.out) Tryz.underlying139 rfl Q0) rfl ?_
    exact ⟨_, Q6, by (with_reducible repeat (first | apply Kd.R_alloc | apply Kd.R_drewN | apply Kd.R_drew)); exact Kd.R_mono (Kd.R_far (p := ⟨gb277, 1, none⟩) (Kd.R_far (p := ⟨gb277, 0, none⟩) (Kd.R_types HO289.out BK277.out Q12) (fun _ hk => hk.2) (.slice Ao26 y287.length co26)) (fun _ hk => hk.2) (.int .u8 127)) (fun _ hk => trivial), Q31⟩
   rw [if_neg c23] at H
   have c23b0 : (a0 == 64) = false := beq_eq_false_iff_ne.mpr c23
   have c23b1 : (a0 != 64) = true := bne_iff_ne.mpr c23
   by_cases c28 : a0 ≤ 66
   ·rw [if_pos c28] at H
    have c28b0 : decide (a0 ≤ 66) = true := decide_eq_true c28
    clear c28
    replace H := Option.bind_eq_some_iff.mp H
    obtain ⟨t290, A290, H⟩ := H
    replace H : (some (([] : List Int), t290, none)) = some (r1, r2, r3) := H
    have A29 := Aside0.mk A290
    clear A290
    simp only [Option.some.injEq, Prod.mk.injEq] at H
    obtain ⟨rfl, rfl, rfl⟩ := H
    go_wp2_with (first | ((with_reducible refine gate_callee (f := 122) rfl ?_); refine goesL_ (some 43) rfl rfl Tryz.func122 Q0 rfl #[.string t278] rfl Q9 ?_; (with_reducible refine (ops_own.calls t278 t290 _ ?side1 A29.out).mono ?_); (case side1 => exact GG.nil _); rintro e w' ⟨rfl, ⟨nd, rfl⟩⟩; refine ⟨_, rfl, ?_⟩; (try (rw [drewN_self wc]; generalize hq_ : World.drewN wc _ = wc; have n0_ : Aside0 (wc.heap[gb277]? = some (.cells #[.slice none 0 0, .int .u8 0] 139 (0, 0))) := ⟨by rw [← hq_]; exact Q45⟩; have n1_ : Aside0 (Below w.heap.size w wc) := ⟨by rw [← hq_]; exact Q31⟩; clear BK277 HB hq_; have BK277 := n0_; have HB := n1_; clear n0_ n1_)); have hcz30_0 : wc.cell? ⟨gb277, 0, none⟩ = some (.slice none 0 0) := (blk_cell BK277.out 0).trans rfl; have hcz30_1 : wc.cell? ⟨gb277, 1, none⟩ = some (.int .u8 0) := (blk_cell BK277.out 1).trans rfl; have hfz30_0 := blk_frozen BK277.out 0; have hfz30_1 := blk_frozen BK277.out 1))
    refine bodyPost_ret (results_ct rfl _ _ gb277 139 #[.slice none 0 0, .int .u8 t290] (0, 0) _ rfl Q84 Tryz.underlying139 rfl Q0) rfl ?_
    exact ⟨_, Q6, Q54, Q31⟩
   rw [if_neg c28] at H
   have c28b0 : decide (a0 ≤ 66) = false := decide_eq_false c28
   clear c28
   replace H := Option.bind_eq_some_iff.mp H
   obtain ⟨⟨t291, t294⟩, A310, H⟩ := H
   replace H : (some (t291, t294, none)) = some (r1, r2, r3) := H
   have A31 := Aside0.mk A310
   clear A310
   simp only [Option.some.injEq, Prod.mk.injEq] at H
   obtain ⟨rfl, rfl, rfl⟩ := H
   go_wp2_with (first | ((with_reducible refine gate_callee (f := 123) rfl ?_); refine goesL_ (some 46) rfl rfl Tryz.func123 Q0 rfl #[.string t278] rfl Q9 ?_; (with_reducible refine (ops_reckoned.calls kj2 t278 t291 t294 _ ?side1 A31.out).mono ?_); (case side1 => exact GG.below Q31 HG.out); rintro e w32 ⟨v292, rfl, ho0, hb⟩; refine ⟨_, rfl, ?_⟩; have n0_ := Aside0.mk (Kd.R_lower ho0 (below_size Q31)); have n1_ := Aside0.mk (blk_below (g := gb277) (o := .cells #[.slice none 0 0, .int .u8 0] 139 (0, 0)) Q45 hb); have n2_ := Aside0.mk (below_step Q31 hb); clear BK277; clear HB; have HO293 := n0_; have BK277 := n1_; have HB := n2_; clear n0_ n1_ n2_; (try clear hb); (try clear hb2); (try clear hk); (try clear hi); (try clear ho0); obtain ⟨Ao33, co33, eo33⟩ := Kd.R_slice HO293.out; subst eo33; have hcz34_0 : w32.cell? ⟨gb277, 0, none⟩ = some (.slice none 0 0) := (blk_cell BK277.out 0).trans rfl; have hcz34_1 : w32.cell? ⟨gb277, 1, none⟩ = some (.int .u8 0) := (blk_cell BK277.out 1).trans rfl; have hfz34_0 := blk_frozen BK277.out 0; have hfz34_1 := blk_frozen BK277.out 1))
   refine bodyPost_ret (results_ct rfl _ _ gb277 139 #[.slice Ao33 t291.length co33, .int .u8 t294] (0, 0) _ rfl (by (with_reducible repeat (first | refine blk_drewN ?_ _ | refine blk_drew ?_ | refine blk_alloc ?_ _)); refine blk_put (cs := #[.slice Ao33 t291.length co33, .int .u8 0]) ?_ 1 _ rfl; (with_reducible repeat (first | refine blk_drewN ?_ _ | refine blk_drew ?_ | refine blk_alloc ?_ _)); refine blk_put (cs := #[.slice none 0 0, .int .u8 0]) ?_ 0 _ rfl; (with_reducible repeat (first | refine blk_drewN ?_ _ | refine blk_drew ?_ | refine blk_alloc ?_ _)); exact BK277.out) Tryz.underlying139 rfl Q0) rfl ?_
   exact ⟨_, Q6, by (with_reducible repeat (first | apply Kd.R_alloc | apply Kd.R_drewN | apply Kd.R_drew)); exact Kd.R_mono (Kd.R_far (p := ⟨gb277, 1, none⟩) (Kd.R_far (p := ⟨gb277, 0, none⟩) (Kd.R_types HO293.out BK277.out Q12) (fun _ hk => hk.2) (.slice Ao33 t291.length co33)) (fun _ hk => hk.2) (.int .u8 t294)) (fun _ hk => trivial), Q31⟩
end Go.Proofs.YthgkeehpoilgaaaGreatDoor.Hw
end

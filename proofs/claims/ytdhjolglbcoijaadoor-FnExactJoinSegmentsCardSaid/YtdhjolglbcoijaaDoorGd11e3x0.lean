/- Contracts of functions of the program and of the reference, and plain lemmas on what they compute. No condition. -/
import Derived.Test.YtdhjolglbcoijaaDoorGe1c07x0
import Derived.Test.YtdhjolglbcoijaaDoorG8b2f3x0
import Derived.Test.YtdhjolglbcoijaaDoorShortV
set_option maxHeartbeats 8000000
set_option maxRecDepth 100000
namespace Go.Proofs.YtdhjolglbcoijaaDoor.PA
open Go.RowKit Go.Proofs.YtdhjolglbcoijaaDoor.Short Go.Proofs.YtdhjolglbcoijaaDoorW.PrintWords Go.Proofs.YtdhjolglbcoijaaDoorW.PrintLast Go.Proofs.YtdhjolglbcoijaaDoorW.PrintMore
attribute [local go_sem] max2_int min2_int max_two min_two max_three min_three max_four min_four   -- for this text's walks alone
set_option linter.unusedVariables false
set_option linter.unusedSimpArgs false

def spec_l01In.f (a0 : Int) (a1 : Int) (a2 : Int) : Option (Bool) := if a0 ≥ a1 then (some (decide (a0 ≤ a2))) else (some false)
theorem spec_l01In.calls (a0 : Int) (a1 : Int) (a2 : Int) (r : Bool) (w : World) (h : spec_l01In.f a0 a1 a2 = some r) :
 Calls Tryd.prog 70 #[.int .i64 a0, .int .i64 a1, .int .i64 a2] w fun e w' => e = .returned (.bool r) ∧ Drawn0 w w' := by
 have H := h
 unfold spec_l01In.f at H
 clear h
 by_cases c4 : a0 ≥ a1
 rotate_left
 ·rw [if_neg c4] at H
  have c4b0 := decide_eq_false c4
  clear c4
  obtain rfl := Option.some.inj H
  go_enter Tryd.func70, Tryd.ntmps70
  go_wp2
  go_ret
  exact ⟨sr_, by repeat (first | exact Drawn0.refl _ | apply Drawn0.step)⟩
 rw [if_pos c4] at H
 have c4b0 := decide_eq_true c4
 clear c4
 obtain rfl := Option.some.inj H
 go_enter Tryd.func70, Tryd.ntmps70
 go_wp2
 go_ret
 exact ⟨sr_, by repeat (first | exact Drawn0.refl _ | apply Drawn0.step)⟩


def spec_HalfOk.f (a0 : Int) : Option (Bool) := (spec_l01In.f a0 0 4294967295).bind fun t157 => (some t157)
theorem spec_HalfOk.calls (a0 : Int) (r : Bool) (w : World) (h : spec_HalfOk.f a0 = some r) :
 Calls Tryd.prog 138 #[.int .i64 a0] w fun e w' => e = .returned (.bool r) ∧ Drawn0 w w' := by
 have H := h
 unfold spec_HalfOk.f at H
 clear h
 replace H := bs_ H
 obtain ⟨t157, A2, H⟩ := H
 try dsimp only at H
 obtain rfl := Option.some.inj H
 go_enter Tryd.func138, Tryd.ntmps138
 go_wp2_with (first | ((with_reducible refine gate_callee (f := 70) rfl ?_); refine gs_ (some 4) Tryd.func70 #[.int .i64 a0, .int .i64 0, .int .i64 4294967295] ?_; (with_reducible refine (spec_l01In.calls a0 0 4294967295 t157 _ A2.out).mono ?_); rintro e w' ⟨rfl, ⟨nd, rfl⟩⟩; refine ⟨_, rfl, ?_⟩))
 go_ret
 exact ⟨sr_, by repeat (first | exact Drawn0.refl _ | apply Drawn0.step)⟩


def spec_ItemOk.f (a0_0 : Int) (a0_1 : Int) (a0_2 : Int) (a0_3 : Int) : Option (Bool) := if a0_0 = 1 then ((spec_HalfOk.f a0_1).bind fun t159 => (if t159 = true then ((spec_HalfOk.f a0_2).bind fun t160 => (if t160 = true then (some (a0_3 == 0)) else (some false))) else (some false))) else (if a0_0 = 2 then ((spec_l01In.f a0_3 1 1000000000).bind fun t161 => (if t161 = true then (if a0_1 = 0 then (some (a0_2 == 0)) else (some false)) else (some false))) else (some false))
theorem spec_ItemOk.calls (a0_0 : Int) (a0_1 : Int) (a0_2 : Int) (a0_3 : Int) (r : Bool) (w : World) (h : spec_ItemOk.f a0_0 a0_1 a0_2 a0_3 = some r) :
 Calls Tryd.prog 136 #[.agg #[.int .i64 a0_0, .int .i64 a0_1, .int .i64 a0_2, .int .i64 a0_3]] w fun e w' => e = .returned (.bool r) ∧ Below w.heap.size w w' := by
 have hu68 := Tryd.underlying68
 have HB := Aside0.mk (Below.refl w.heap.size w)
 have H := h
 unfold spec_ItemOk.f at H
 clear h
 by_cases c2 : a0_0 = 1
 ·rw [if_pos c2] at H
  have c2b0 : (a0_0 == 1) = true := beq_iff_eq.mpr c2
  have c2b1 : (a0_0 != 1) = false := bne_eq_false_iff_eq.mpr c2
  clear c2
  replace H := bs_ H
  obtain ⟨t159, A3, H⟩ := H
  try dsimp only at H
  by_cases c4 : t159 = true
  rotate_left
  ·replace c4 := Bool.eq_false_iff.mpr c4
   subst c4
   rw [nf_] at H
   obtain rfl := Option.some.inj H
   go_enter Tryd.func136, Tryd.ntmps136
   go_wp2_with (first | ((with_reducible refine gate_dst (N := 1) rfl ?_); refine bx_ 1 68 #[.int .i64 a0_0, .int .i64 a0_1, .int .i64 a0_2, .int .i64 a0_3] ?_; intro gb158 hg w11 hbox hb; have BK158 := Aside0.mk (hbox); have GW158 := Aside0.mk ((hz_ : w.heap.size ≤ gb158)); have GE158 := Aside0.mk ((hz_ : w.heap.size ≤ gb158)); replace HB := Aside0.mk (below_step bl_ hb); clear hb hbox hg; obtain ⟨hcz12_0, hcz12_1, hcz12_2, hcz12_3, hfz12_0, hfz12_1, hfz12_2, hfz12_3⟩ := cf4_ BK158.out) | ((with_reducible refine gate_callee (f := 138) rfl ?_); refine gs_ (some 8) Tryd.func138 #[.int .i64 a0_1] ?_; (with_reducible refine (spec_HalfOk.calls a0_1 false _ A3.out).mono ?_); rintro e w' ⟨rfl, ⟨nd, rfl⟩⟩; refine ⟨_, rfl, ?_⟩))
   go_ret
   exact ⟨er_, bl_⟩
  subst c4
  rw [if_pos rfl] at H
  replace H := bs_ H
  obtain ⟨t160, A5, H⟩ := H
  try dsimp only at H
  by_cases c6 : t160 = true
  ·subst c6
   rw [if_pos rfl] at H
   obtain rfl := Option.some.inj H
   go_enter Tryd.func136, Tryd.ntmps136
   go_wp2_with (first | ((with_reducible refine gate_dst (N := 1) rfl ?_); refine bx_ 1 68 #[.int .i64 a0_0, .int .i64 a0_1, .int .i64 a0_2, .int .i64 a0_3] ?_; intro gb158 hg w7 hbox hb; have BK158 := Aside0.mk (hbox); have GW158 := Aside0.mk ((hz_ : w.heap.size ≤ gb158)); have GE158 := Aside0.mk ((hz_ : w.heap.size ≤ gb158)); replace HB := Aside0.mk (below_step bl_ hb); clear hb hbox hg; obtain ⟨hcz8_0, hcz8_1, hcz8_2, hcz8_3, hfz8_0, hfz8_1, hfz8_2, hfz8_3⟩ := cf4_ BK158.out) | ((with_reducible refine gate_callee (f := 138) rfl ?_); refine gs_ (some 8) Tryd.func138 #[.int .i64 a0_1] ?_; (with_reducible refine (spec_HalfOk.calls a0_1 true _ A3.out).mono ?_); rintro e w' ⟨rfl, ⟨nd, rfl⟩⟩; refine ⟨_, rfl, ?_⟩) | (go_at_call 138; (with_reducible refine (spec_HalfOk.calls a0_2 true _ A5.out).mono ?_); rintro e w' ⟨rfl, ⟨nd, rfl⟩⟩))
   go_ret
   exact ⟨er_, bl_⟩
  replace c6 := Bool.eq_false_iff.mpr c6
  subst c6
  rw [nf_] at H
  obtain rfl := Option.some.inj H
  go_enter Tryd.func136, Tryd.ntmps136
  go_wp2_with (first | ((with_reducible refine gate_dst (N := 1) rfl ?_); refine bx_ 1 68 #[.int .i64 a0_0, .int .i64 a0_1, .int .i64 a0_2, .int .i64 a0_3] ?_; intro gb158 hg w9 hbox hb; have BK158 := Aside0.mk (hbox); have GW158 := Aside0.mk ((hz_ : w.heap.size ≤ gb158)); have GE158 := Aside0.mk ((hz_ : w.heap.size ≤ gb158)); replace HB := Aside0.mk (below_step bl_ hb); clear hb hbox hg; obtain ⟨hcz10_0, hcz10_1, hcz10_2, hcz10_3, hfz10_0, hfz10_1, hfz10_2, hfz10_3⟩ := cf4_ BK158.out) | ((with_reducible refine gate_callee (f := 138) rfl ?_); refine gs_ (some 8) Tryd.func138 #[.int .i64 a0_1] ?_; (with_reducible refine (spec_HalfOk.calls a0_1 true _ A3.out).mono ?_); rintro e w' ⟨rfl, ⟨nd, rfl⟩⟩; refine ⟨_, rfl, ?_⟩) | (go_at_call 138; (with_reducible refine (spec_HalfOk.calls a0_2 false _ A5.out).mono ?_); rintro e w' ⟨rfl, ⟨nd, rfl⟩⟩))
  go_ret
  exact ⟨er_, bl_⟩
 rw [if_neg c2] at H
 have c2b0 : (a0_0 == 1) = false := beq_eq_false_iff_ne.mpr c2
 have c2b1 : (a0_0 != 1) = true := bne_iff_ne.mpr c2
 by_cases c13 : a0_0 = 2
 rotate_left
 ·rw [if_neg c13] at H
  have c13b0 : (a0_0 == 2) = false := beq_eq_false_iff_ne.mpr c13
  have c13b1 : (a0_0 != 2) = true := bne_iff_ne.mpr c13
  obtain rfl := Option.some.inj H
  go_enter Tryd.func136, Tryd.ntmps136
  go_wp2_with (first | ((with_reducible refine gate_dst (N := 1) rfl ?_); refine bx_ 1 68 #[.int .i64 a0_0, .int .i64 a0_1, .int .i64 a0_2, .int .i64 a0_3] ?_; intro gb158 hg w23 hbox hb; have BK158 := Aside0.mk (hbox); have GW158 := Aside0.mk ((hz_ : w.heap.size ≤ gb158)); have GE158 := Aside0.mk ((hz_ : w.heap.size ≤ gb158)); replace HB := Aside0.mk (below_step bl_ hb); clear hb hbox hg; obtain ⟨hcz24_0, hcz24_1, hcz24_2, hcz24_3, hfz24_0, hfz24_1, hfz24_2, hfz24_3⟩ := cf4_ BK158.out))
  go_ret
  exact ⟨er_, bl_⟩
 rw [if_pos c13] at H
 have c13b0 : (a0_0 == 2) = true := beq_iff_eq.mpr c13
 have c13b1 : (a0_0 != 2) = false := bne_eq_false_iff_eq.mpr c13
 clear c13
 replace H := bs_ H
 obtain ⟨t161, A14, H⟩ := H
 try dsimp only at H
 by_cases c15 : t161 = true
 rotate_left
 ·replace c15 := Bool.eq_false_iff.mpr c15
  subst c15
  rw [nf_] at H
  obtain rfl := Option.some.inj H
  go_enter Tryd.func136, Tryd.ntmps136
  go_wp2_with (first | ((with_reducible refine gate_dst (N := 1) rfl ?_); refine bx_ 1 68 #[.int .i64 a0_0, .int .i64 a0_1, .int .i64 a0_2, .int .i64 a0_3] ?_; intro gb158 hg w21 hbox hb; have BK158 := Aside0.mk (hbox); have GW158 := Aside0.mk ((hz_ : w.heap.size ≤ gb158)); have GE158 := Aside0.mk ((hz_ : w.heap.size ≤ gb158)); replace HB := Aside0.mk (below_step bl_ hb); clear hb hbox hg; have hcz22_0 : w21.cell? ⟨gb158, 0, none⟩ = some (.int .i64 a0_0) := (blk_cell BK158.out 0).trans rfl; have hcz22_1 : w21.cell? ⟨gb158, 1, none⟩ = some (.int .i64 a0_1) := (blk_cell BK158.out 1).trans rfl; have hcz22_2 : w21.cell? ⟨gb158, 2, none⟩ = some (.int .i64 a0_2) := (blk_cell BK158.out 2).trans rfl; have hcz22_3 : w21.cell? ⟨gb158, 3, none⟩ = some (.int .i64 a0_3) := (blk_cell BK158.out 3).trans rfl; have hfz22_0 := blk_frozen BK158.out 0; have hfz22_1 := blk_frozen BK158.out 1; have hfz22_2 := blk_frozen BK158.out 2; have hfz22_3 := blk_frozen BK158.out 3) | (go_at_call 70; (with_reducible refine (spec_l01In.calls a0_3 1 1000000000 false _ A14.out).mono ?_); rintro e w' ⟨rfl, ⟨nd, rfl⟩⟩))
  go_ret
  exact ⟨er_, bl_⟩
 subst c15
 rw [if_pos rfl] at H
 by_cases c16 : a0_1 = 0
 rotate_left
 ·rw [if_neg c16] at H
  have c16b0 : (a0_1 == 0) = false := beq_eq_false_iff_ne.mpr c16
  have c16b1 : (a0_1 != 0) = true := bne_iff_ne.mpr c16
  obtain rfl := Option.some.inj H
  go_enter Tryd.func136, Tryd.ntmps136
  go_wp2_with (first | ((with_reducible refine gate_dst (N := 1) rfl ?_); refine bx_ 1 68 #[.int .i64 a0_0, .int .i64 a0_1, .int .i64 a0_2, .int .i64 a0_3] ?_; intro gb158 hg w19 hbox hb; have BK158 := Aside0.mk (hbox); have GW158 := Aside0.mk ((hz_ : w.heap.size ≤ gb158)); have GE158 := Aside0.mk ((hz_ : w.heap.size ≤ gb158)); replace HB := Aside0.mk (below_step bl_ hb); clear hb hbox hg; have hcz20_0 : w19.cell? ⟨gb158, 0, none⟩ = some (.int .i64 a0_0) := (blk_cell BK158.out 0).trans rfl; have hcz20_1 : w19.cell? ⟨gb158, 1, none⟩ = some (.int .i64 a0_1) := (blk_cell BK158.out 1).trans rfl; have hcz20_2 : w19.cell? ⟨gb158, 2, none⟩ = some (.int .i64 a0_2) := (blk_cell BK158.out 2).trans rfl; have hcz20_3 : w19.cell? ⟨gb158, 3, none⟩ = some (.int .i64 a0_3) := (blk_cell BK158.out 3).trans rfl; have hfz20_0 := blk_frozen BK158.out 0; have hfz20_1 := blk_frozen BK158.out 1; have hfz20_2 := blk_frozen BK158.out 2; have hfz20_3 := blk_frozen BK158.out 3) | (go_at_call 70; (with_reducible refine (spec_l01In.calls a0_3 1 1000000000 true _ A14.out).mono ?_); rintro e w' ⟨rfl, ⟨nd, rfl⟩⟩))
  go_ret
  exact ⟨er_, bl_⟩
 rw [if_pos c16] at H
 have c16b0 : (a0_1 == 0) = true := beq_iff_eq.mpr c16
 have c16b1 : (a0_1 != 0) = false := bne_eq_false_iff_eq.mpr c16
 clear c16
 obtain rfl := Option.some.inj H
 go_enter Tryd.func136, Tryd.ntmps136
 go_wp2_with (first | ((with_reducible refine gate_dst (N := 1) rfl ?_); refine bx_ 1 68 #[.int .i64 a0_0, .int .i64 a0_1, .int .i64 a0_2, .int .i64 a0_3] ?_; intro gb158 hg w17 hbox hb; have BK158 := Aside0.mk (hbox); have GW158 := Aside0.mk ((hz_ : w.heap.size ≤ gb158)); have GE158 := Aside0.mk ((hz_ : w.heap.size ≤ gb158)); replace HB := Aside0.mk (below_step bl_ hb); clear hb hbox hg; have hcz18_0 : w17.cell? ⟨gb158, 0, none⟩ = some (.int .i64 a0_0) := (blk_cell BK158.out 0).trans rfl; have hcz18_1 : w17.cell? ⟨gb158, 1, none⟩ = some (.int .i64 a0_1) := (blk_cell BK158.out 1).trans rfl; have hcz18_2 : w17.cell? ⟨gb158, 2, none⟩ = some (.int .i64 a0_2) := (blk_cell BK158.out 2).trans rfl; have hcz18_3 : w17.cell? ⟨gb158, 3, none⟩ = some (.int .i64 a0_3) := (blk_cell BK158.out 3).trans rfl; have hfz18_0 := blk_frozen BK158.out 0; have hfz18_1 := blk_frozen BK158.out 1; have hfz18_2 := blk_frozen BK158.out 2; have hfz18_3 := blk_frozen BK158.out 3) | (go_at_call 70; (with_reducible refine (spec_l01In.calls a0_3 1 1000000000 true _ A14.out).mono ?_); rintro e w' ⟨rfl, ⟨nd, rfl⟩⟩))
 go_ret
 exact ⟨er_, bl_⟩


attribute [local go_sem high] eqA68
def spec_FrameOk.j0 : Nat → Bool → Int → Int → Int → Int → Int → Int → Int → Option (Bool)
 | 0, _, _, _, _, _, _, _, _ => none
 | k + 1, x12, x163000, x163001, x163002, x163003, x163004, x163005, x163006 => if x12 = true then (some false) else (if x163000 = 1 then ((spec_ItemOk.f x163003 x163004 x163005 x163006).bind fun t165 => (some t165)) else (if x163000 = 2 then (some (x163003 == 0 && (x163004 == 0 && (x163005 == 0 && (x163006 == 0))))) else (some false)))
def spec_FrameOk.f (k : Nat) (a0_0 : Int) (a0_1 : Int) (a0_2 : Int) (a0_3 : Int) (a0_4 : Int) (a0_5 : Int) (a0_6 : Int) : Option (Bool) := (spec_l01In.f a0_1 0 2).bind fun t163 => (if t163 = true then ((spec_l01In.f a0_2 1 1000000000).bind fun t164 => (spec_FrameOk.j0 k (!t164) a0_0 a0_1 a0_2 a0_3 a0_4 a0_5 a0_6)) else (spec_FrameOk.j0 k true a0_0 a0_1 a0_2 a0_3 a0_4 a0_5 a0_6))
theorem spec_FrameOk.mono_l : ∀ k, (∀ y0 y1 y2 y3 y4 y5 y6 y7, LeO (spec_FrameOk.j0 k y0 y1 y2 y3 y4 y5 y6 y7) (spec_FrameOk.j0 (k + 1) y0 y1 y2 y3 y4 y5 y6 y7))
 | 0 => fun _ _ _ _ _ _ _ _ r h => by simp [spec_FrameOk.j0] at h
 | k + 1 => by
  have ih0 := spec_FrameOk.mono_l k
  ·intro y0 y1 y2 y3 y4 y5 y6 y7
   unfold spec_FrameOk.j0
   exact mo_
theorem spec_FrameOk.mono : ∀ a0 a1 a2 a3 a4 a5 a6 k, LeO (spec_FrameOk.f k a0 a1 a2 a3 a4 a5 a6) (spec_FrameOk.f (k + 1) a0 a1 a2 a3 a4 a5 a6) := by
 intro a0 a1 a2 a3 a4 a5 a6 k
 have ih0 := spec_FrameOk.mono_l k
 unfold spec_FrameOk.f
 exact mo_
theorem spec_FrameOk.calls (k : Nat) (a0_0 : Int) (a0_1 : Int) (a0_2 : Int) (a0_3 : Int) (a0_4 : Int) (a0_5 : Int) (a0_6 : Int) (r : Bool) (w : World) (h : spec_FrameOk.f k a0_0 a0_1 a0_2 a0_3 a0_4 a0_5 a0_6 = some r) :
 Calls Tryd.prog 126 #[.agg #[.int .i64 a0_0, .int .i64 a0_1, .int .i64 a0_2, .int .i64 a0_3, .int .i64 a0_4, .int .i64 a0_5, .int .i64 a0_6]] w fun e w' => e = .returned (.bool r) ∧ Below w.heap.size w w' := by
 have hu115 := Tryd.underlying115
 have hu68 := Tryd.underlying68
 have HB := Aside0.mk (Below.refl w.heap.size w)
 have H := h
 unfold spec_FrameOk.f at H
 clear h
 have HC2 := Aside0.mk H
 clear H
 go_enter Tryd.func126, Tryd.ntmps126
 go_upto_region 1 with (first | ((with_reducible refine gate_dst (N := 1) rfl ?_); refine bx_ 1 115 #[.int .i64 a0_0, .int .i64 a0_1, .int .i64 a0_2, .int .i64 a0_3, .int .i64 a0_4, .int .i64 a0_5, .int .i64 a0_6] ?_; intro gb162 hg w3 hbox hb; have BK162 := Aside0.mk (hbox); have GW162 := Aside0.mk ((hz_ : w.heap.size ≤ gb162)); have GE162 := Aside0.mk ((hz_ : w.heap.size ≤ gb162)); replace HB := Aside0.mk (below_step bl_ hb); clear hb hbox hg))
 (try simp only [Act.put, List.setIfInBounds_toArray, List.set_cons_zero, List.set_cons_succ])
 go_cut [12] (fun v12 wc => ∃ (kq : Nat) (x12_1 : Bool), v12 = .bool x12_1 ∧ Aside0 (spec_FrameOk.j0 kq x12_1 a0_0 a0_1 a0_2 a0_3 a0_4 a0_5 a0_6 = some r) ∧ Aside0 (kq ≤ k) ∧ Aside0 (wc.heap[gb162]? = some (.cells #[.int .i64 a0_0, .int .i64 a0_1, .int .i64 a0_2, .int .i64 a0_3, .int .i64 a0_4, .int .i64 a0_5, .int .i64 a0_6] 115 (0, 0))) ∧ Aside0 (Below w.heap.size w wc))
 case first =>
  have H := HC2.out
  clear HC2
  replace H := bs_ H
  obtain ⟨t163, A4, H⟩ := H
  try dsimp only at H
  by_cases c5 : t163 = true
  rotate_left
  ·replace c5 := Bool.eq_false_iff.mpr c5
   subst c5
   rw [nf_] at H
   have H' := Aside0.mk H
   clear H
   obtain ⟨hcz8_0, hcz8_1, hcz8_2, hcz8_3, hcz8_4, hcz8_5, hcz8_6, hfz8_0, hfz8_1, hfz8_2, hfz8_3, hfz8_4, hfz8_5, hfz8_6⟩ := cf7_ BK162.out
   go_wp2_with (first | ((with_reducible refine gate_callee (f := 70) rfl ?_); refine gs_ (some 5) Tryd.func70 #[.int .i64 a0_1, .int .i64 0, .int .i64 2] ?_; (with_reducible refine (spec_l01In.calls a0_1 0 2 false _ A4.out).mono ?_); rintro e w' ⟨rfl, ⟨nd, rfl⟩⟩; refine ⟨_, rfl, ?_⟩))
   go_meet
   case rel => exact ⟨_, (true), (sr_), H', ⟨by first | omega | exact Nat.le_refl _⟩, ⟨bk_ BK162.out⟩, ⟨bl_⟩⟩
  subst c5
  rw [if_pos rfl] at H
  replace H := bs_ H
  obtain ⟨t164, A6, H⟩ := H
  try dsimp only at H
  have H' := Aside0.mk H
  clear H
  obtain ⟨hcz7_0, hcz7_1, hcz7_2, hcz7_3, hcz7_4, hcz7_5, hcz7_6, hfz7_0, hfz7_1, hfz7_2, hfz7_3, hfz7_4, hfz7_5, hfz7_6⟩ := cf7_ BK162.out
  go_wp2_with (first | ((with_reducible refine gate_callee (f := 70) rfl ?_); refine gs_ (some 5) Tryd.func70 #[.int .i64 a0_1, .int .i64 0, .int .i64 2] ?_; (with_reducible refine (spec_l01In.calls a0_1 0 2 true _ A4.out).mono ?_); rintro e w' ⟨rfl, ⟨nd, rfl⟩⟩; refine ⟨_, rfl, ?_⟩) | (go_at_call 70; (with_reducible refine (spec_l01In.calls a0_2 1 1000000000 t164 _ A6.out).mono ?_); rintro e w' ⟨rfl, ⟨nd, rfl⟩⟩))
  go_meet
  case rel => exact ⟨_, (!t164), (sr_), H', ⟨by first | omega | exact Nat.le_refl _⟩, ⟨bk_ BK162.out⟩, ⟨bl_⟩⟩
 clear HC2
 obtain ⟨kq, x12_1, rfl, HA, HJ1, BK162, HB⟩ := hcut
 cases kq with
 | zero => exact absurd HA.out (by simp [spec_FrameOk.j0])
 | succ kj1 => ?_
 have H := HA.out
 clear HA
 simp only [spec_FrameOk.j0] at H
 by_cases c9 : x12_1 = true
 ·subst c9
  rw [if_pos rfl] at H
  obtain rfl := Option.some.inj H
  go_wp2
  go_ret
  exact ⟨er_, bl_⟩
 replace c9 := Bool.eq_false_iff.mpr c9
 subst c9
 rw [nf_] at H
 by_cases c10 : a0_0 = 1
 ·rw [if_pos c10] at H
  have c10b0 : (a0_0 == 1) = true := beq_iff_eq.mpr c10
  have c10b1 : (a0_0 != 1) = false := bne_eq_false_iff_eq.mpr c10
  clear c10
  replace H := bs_ H
  obtain ⟨t165, A11, H⟩ := H
  try dsimp only at H
  obtain rfl := Option.some.inj H
  obtain ⟨hcz12_0, hcz12_1, hcz12_2, hcz12_3, hcz12_4, hcz12_5, hcz12_6, hfz12_0, hfz12_1, hfz12_2, hfz12_3, hfz12_4, hfz12_5, hfz12_6⟩ := cf7_ BK162.out
  go_wp2_with (first | ((with_reducible refine gate_callee (f := 136) rfl ?_); refine gs_ (some 18) Tryd.func136 #[.agg #[.int .i64 a0_3, .int .i64 a0_4, .int .i64 a0_5, .int .i64 a0_6]] ?_; (with_reducible refine (spec_ItemOk.calls a0_3 a0_4 a0_5 a0_6 t165 _ A11.out).mono ?_); rintro e w13 ⟨rfl, hb⟩; refine ⟨_, rfl, ?_⟩; replace BK162 := Aside0.mk (blk_below (bn0_ BK162.out) hb); replace HB := Aside0.mk (below_step bl_ hb); (try clear hb)))
  go_ret
  exact ⟨er_, bl_⟩
 rw [if_neg c10] at H
 have c10b0 : (a0_0 == 1) = false := beq_eq_false_iff_ne.mpr c10
 have c10b1 : (a0_0 != 1) = true := bne_iff_ne.mpr c10
 by_cases c14 : a0_0 = 2
 rotate_left
 ·rw [if_neg c14] at H
  have c14b0 : (a0_0 == 2) = false := beq_eq_false_iff_ne.mpr c14
  have c14b1 : (a0_0 != 2) = true := bne_iff_ne.mpr c14
  obtain rfl := Option.some.inj H
  obtain ⟨hcz16_0, hcz16_1, hcz16_2, hcz16_3, hcz16_4, hcz16_5, hcz16_6, hfz16_0, hfz16_1, hfz16_2, hfz16_3, hfz16_4, hfz16_5, hfz16_6⟩ := cf7_ BK162.out
  go_wp2
  go_ret
  exact ⟨er_, bl_⟩
 rw [if_pos c14] at H
 have c14b0 : (a0_0 == 2) = true := beq_iff_eq.mpr c14
 have c14b1 : (a0_0 != 2) = false := bne_eq_false_iff_eq.mpr c14
 clear c14
 obtain rfl := Option.some.inj H
 obtain ⟨hcz15_0, hcz15_1, hcz15_2, hcz15_3, hcz15_4, hcz15_5, hcz15_6, hfz15_0, hfz15_1, hfz15_2, hfz15_3, hfz15_4, hfz15_5, hfz15_6⟩ := cf7_ BK162.out
 go_wp2
 go_ret
 exact ⟨er_, bl_⟩


def spec_l02Four.f (a0 : Int) : Option (ByteArray) := some (strOfNums (([(a0 / 16777216) % 256, (a0 / 65536) % 256, (a0 / 256) % 256, (a0) % 256] : List Int)))
theorem spec_l02Four.calls (a0 : Int) (r : ByteArray) (w : World) (h : spec_l02Four.f a0 = some r) :
 Calls Tryd.prog 113 #[.int .u32 a0] w fun e w' => e = .returned (.string r) ∧ Below w.heap.size w w' := by
 have HB := Aside0.mk (Below.refl w.heap.size w)
 have H := h
 unfold spec_l02Four.f at H
 clear h
 obtain ⟨y142, hy142⟩ : ∃ y_ : List Int, y_ = (([(a0 / 16777216) % 256, (a0 / 65536) % 256, (a0 / 256) % 256, (a0) % 256] : List Int)) := ⟨_, rfl⟩
 replace H : (some (strOfNums y142)) = some r := rp_ H hy142
 have Ny142 := Aside0.mk hy142
 clear hy142
 obtain rfl := Option.some.inj H
 go_enter Tryd.func113, Tryd.ntmps113
 go_wp2_with (first | ((with_reducible refine gate_dst (N := 14) rfl ?_); refine Kd.R_lit (Kd.int .u8) _ 5 ?hg (N := 14) ?hd (xs := ([(a0 / 16777216) % 256, (a0 / 65536) % 256, (a0 / 256) % 256, (a0) % 256] : List Int)) (inner := [.int .u8 ((a0 / 16777216) % 256), .int .u8 ((a0 / 65536) % 256), .int .u8 ((a0 / 256) % 256), .int .u8 ((a0) % 256)]) (ok := fun _ => True) (okp := fun _ => True) ?hr ?hp (fun _ hk => hk) trivial (Below.refl _ _) (Nat.le_refl _) (by simp) ?_; (case hd => rfl); (case hg => rfl); (case hr => first | (go_simp; done) | (go_simp; rfl)); (case hp => exact (Reps.one (show Kd.M (Kd.int .u8) _ _ _ ((a0 / 16777216) % 256) [.int .u8 ((a0 / 16777216) % 256)] from rfl) (Reps.one (show Kd.M (Kd.int .u8) _ _ _ ((a0 / 65536) % 256) [.int .u8 ((a0 / 65536) % 256)] from rfl) (Reps.one (show Kd.M (Kd.int .u8) _ _ _ ((a0 / 256) % 256) [.int .u8 ((a0 / 256) % 256)] from rfl) (Reps.one (show Kd.M (Kd.int .u8) _ _ _ ((a0) % 256) [.int .u8 ((a0) % 256)] from rfl) (Reps.none _ _)))))); intro v143 w2 ho3 hb hg_ hnew_; clear hg_ hnew_; (first | rw [← Ny142.out] at ho3 | (simp only [Int.reduceToNat] at ho3; rw [← Ny142.out] at ho3)); have HO144 := Aside0.mk (Kd.R_lower ho3 (below_size bl_)); replace HB := Aside0.mk (below_step bl_ hb); clear hb ho3; have hcv4 := own_string (P := Tryd.prog) Tryd.underlying61 Tryd.underlying5 Tryd.underlying9 (Kd.own_of_R HO144.out)))
 go_ret
 exact ⟨er_, bl_⟩


def spec_Sealed.f (k : Nat) (a0 : ByteArray) : Option (ByteArray × Bool) := if (a0.size : Int) > 20000 then (some ((⟨#[]⟩ : ByteArray), false)) else ((spec_SumOf.f k a0).bind fun t146 => ((spec_l02Four.f t146).bind fun t147 => (if a0.size + t147.size ≤ 9223372036854775807 then (some (a0 ++ t147, true)) else (none))))
theorem spec_Sealed.mono : ∀ a0 k, LeO (spec_Sealed.f k a0) (spec_Sealed.f (k + 1) a0) := by
 intro a0 k
 unfold spec_Sealed.f
 have m0 := @spec_SumOf.mono
 exact mo_
theorem spec_Sealed.calls (k : Nat) (a0 : ByteArray) (r1 : ByteArray) (r2 : Bool) (w : World) (h : spec_Sealed.f k a0 = some (r1, r2)) :
 Calls Tryd.prog 75 #[.string a0] w fun e w' => e = .returned (.tuple #[.string r1, .bool r2]) ∧ Below w.heap.size w w' := by
 have HB := Aside0.mk (Below.refl w.heap.size w)
 have H := h
 unfold spec_Sealed.f at H
 clear h
 by_cases c2 : (a0.size : Int) > 20000
 ·rw [if_pos c2] at H
  have c2b0 := decide_eq_true c2
  have c2b1 : decide (20000 < a0.size) = true := decide_eq_true (by omega)
  clear c2
  simp only [Option.some.injEq, Prod.mk.injEq] at H
  obtain ⟨rfl, rfl⟩ := H
  go_enter Tryd.func75, Tryd.ntmps75
  go_wp2
  go_ret2
  exact ⟨er_, bl_⟩
 rw [if_neg c2] at H
 have c2b0 := decide_eq_false c2
 have c2b1 : decide (20000 < a0.size) = false := decide_eq_false (by omega)
 clear c2
 replace H := bs_ H
 obtain ⟨t146, A3, H⟩ := H
 try dsimp only at H
 replace H := bs_ H
 obtain ⟨t147, A4, H⟩ := H
 try dsimp only at H
 by_cases c5 : a0.size + t147.size ≤ 9223372036854775807
 rotate_left
 ·exact nn_ c5 H
 rw [if_pos c5] at H
 have c5b0 := eq_true c5
 have c5b1 : decide (a0.size + t147.size ≤ 9223372036854775807) = true := decide_eq_true c5
 try have c5b2 : (9223372036854775807 < a0.size + t147.size) = False := eq_false (Nat.not_lt.2 c5)
 simp only [Option.some.injEq, Prod.mk.injEq] at H
 obtain ⟨rfl, rfl⟩ := H
 go_enter Tryd.func75, Tryd.ntmps75
 go_wp2_with (first | ((with_reducible refine gate_callee (f := 114) rfl ?_); refine gs_ (some 9) Tryd.func114 #[.string a0] ?_; (with_reducible refine (spec_SumOf.calls k a0 t146 _ A3.out).mono ?_); rintro e w' ⟨rfl, ⟨nd, rfl⟩⟩; refine ⟨_, rfl, ?_⟩) | ((with_reducible refine gate_callee (f := 113) rfl ?_); refine gs_ (some 10) Tryd.func113 #[.int .u32 t146] ?_; (with_reducible refine (spec_l02Four.calls t146 t147 _ A4.out).mono ?_); rintro e w6 ⟨rfl, hb⟩; refine ⟨_, rfl, ?_⟩; replace HB := Aside0.mk (below_step bl_ hb); (try clear hb)))
 go_ret2
 exact ⟨er_, bl_⟩


def spec_l01Var.l0 : Nat → Int → List Int → Option (ByteArray)
 | 0, _, _ => none
 | k + 1, x0, x3 => if x0 > 127 then (if x3.length < 140737488355328 then (spec_l01Var.l0 k (wrap64 (Int.tdiv x0 128)) (x3 ++ [(wrap64 ((Int.tmod x0 128) + 128)) % 256])) else (none)) else (if x3.length < 140737488355328 then (some (strOfNums (x3 ++ [(x0) % 256]))) else (none))
def spec_l01Var.f (k : Nat) (a0 : Int) : Option (ByteArray) := spec_l01Var.l0 k a0 (([] : List Int))
theorem spec_l01Var.mono_l : ∀ k, (∀ y0 y1, LeO (spec_l01Var.l0 k y0 y1) (spec_l01Var.l0 (k + 1) y0 y1))
 | 0 => fun _ _ r h => by simp [spec_l01Var.l0] at h
 | k + 1 => by
  have ih0 := spec_l01Var.mono_l k
  ·intro y0 y1
   unfold spec_l01Var.l0
   exact mo_
theorem spec_l01Var.mono : ∀ a0 k, LeO (spec_l01Var.f k a0) (spec_l01Var.f (k + 1) a0) := by
 intro a0 k
 have ih0 := spec_l01Var.mono_l k
 unfold spec_l01Var.f
 exact mo_
theorem spec_l01Var.calls (k : Nat) (a0 : Int) (r : ByteArray) (w : World) (h : spec_l01Var.f k a0 = some r) :
 Calls Tryd.prog 76 #[.int .i64 a0] w fun e w' => e = .returned (.string r) ∧ Below w.heap.size w w' := by
 have HB := Aside0.mk (Below.refl w.heap.size w)
 have H := h
 unfold spec_l01Var.f at H
 clear h
 obtain ⟨y148, hy148⟩ : ∃ y_ : List Int, y_ = (([] : List Int)) := ⟨_, rfl⟩
 replace H : (spec_l01Var.l0 k a0 y148) = some r := rp_ H hy148
 have Ny148 := Aside0.mk hy148
 clear hy148
 have H' := Aside0.mk H
 clear H
 go_enter Tryd.func76, Tryd.ntmps76
 go_wp2_with (first | ((with_reducible refine gate_dst (N := 4) rfl ?_); refine Kd.R_lit (Kd.int .u8) _ 5 ?hg (N := 4) ?hd (xs := ([] : List Int)) (inner := []) (ok := fun _ => True) (okp := fun _ => True) ?hr ?hp (fun _ hk => hk) trivial (Below.refl _ _) (Nat.le_refl _) (by simp) ?_; (case hd => rfl); (case hg => rfl); (case hr => first | (go_simp; done) | (go_simp; rfl)); (case hp => exact (Reps.none _ _)); intro v149 w2 ho3 hb hg_ hnew_; clear hg_ hnew_; (first | rw [← Ny148.out] at ho3 | (simp only [Int.reduceToNat] at ho3; rw [← Ny148.out] at ho3)); have HO150 := Aside0.mk (Kd.R_lower ho3 (below_size bl_)); replace HB := Aside0.mk (below_step bl_ hb); clear hb ho3))
 go_loopg [0, 3] k (fun kq v0 v3 w' => ∃ (x0_1 : Int) (x3_1 : List Int), v0 = .int .i64 x0_1 ∧ Aside0 (spec_l01Var.l0 kq x0_1 x3_1 = some r) ∧ Aside0 (kq ≤ k) ∧ Aside0 (Kd.R (Kd.int .u8) 5 w' w.heap.size (fun _ => True) v3 x3_1) ∧ Aside0 (Below w.heap.size w w'))
 case atStart => exact ⟨(a0), (y148), (sr_), H', ⟨Nat.le_refl _⟩, ⟨ra_ HO150.out⟩, ⟨bl_⟩⟩
 clear H'
 obtain ⟨x0_1, x3_1, rfl, HA, HK1, HO_3, HB⟩ := hrel
 cases gk with
 | zero => exact absurd HA.out (by simp [spec_l01Var.l0])
 | succ k1 => ?_
 have H := HA.out
 clear HA
 simp only [spec_l01Var.l0] at H
 by_cases c4 : x0_1 > 127
 rotate_left
 ·rw [if_neg c4] at H
  have c4b0 := decide_eq_false c4
  clear c4
  by_cases c7 : x3_1.length < 140737488355328
  rotate_left
  ·exact nn_ c7 H
  rw [if_pos c7] at H
  have LMc7 := Aside0.mk c7
  clear c7
  obtain ⟨y154, hy154⟩ : ∃ y_ : List Int, y_ = (x3_1 ++ [(x0_1) % 256]) := ⟨_, rfl⟩
  replace H : (some (strOfNums y154)) = some r := rp_ H hy154
  have Ny154 := Aside0.mk hy154
  clear hy154
  obtain rfl := Option.some.inj H
  go_wp2_with (first | ((with_reducible refine gate_builtin (b := .append) (xs := #[.tmp 16, .tmp 19]) rfl ?_); at_builtin; refine Kd.R_append (Kd.int .u8) (w0 := w) w.heap.size rfl (.tmp 16) (.tmp 19) 61 5 (.int .u8 0) 1 rfl Tryd.underlying61 info5 rfl (by decide) (by omega) u3 x3_1 ((x0_1) % 256) [.int .u8 ((x0_1) % 256)] (fun _ => True) (fun _ => False) rfl rfl ?aP (fun _ hk => hk.elim) ?aF ?aO ?aB ?aS ?aL ?_; (case aP => exact rfl); (case aB => exact bl_); (case aF => exact (fun _ _ => trivial)); (case aO => exact (ra_ HO_3.out)); (case aS => exact (below_size bl_)); (case aL => have := LMc7.out; omega); intro v155 w8 ho hb hg hat; rw [← Ny154.out] at ho; replace HB := Aside0.mk (hb); have HO156 := Aside0.mk (ho); clear HO_3; clear ho hb hg hat; have hcv9 := own_string (P := Tryd.prog) Tryd.underlying61 Tryd.underlying5 Tryd.underlying9 (Kd.own_of_R HO156.out)))
  go_ret
  exact ⟨er_, bl_⟩
 rw [if_pos c4] at H
 have c4b0 := decide_eq_true c4
 clear c4
 by_cases c5 : x3_1.length < 140737488355328
 rotate_left
 ·exact nn_ c5 H
 rw [if_pos c5] at H
 have LMc5 := Aside0.mk c5
 clear c5
 obtain ⟨y151, hy151⟩ : ∃ y_ : List Int, y_ = (x3_1 ++ [(wrap64 ((Int.tmod x0_1 128) + 128)) % 256]) := ⟨_, rfl⟩
 replace H : (spec_l01Var.l0 k1 (wrap64 (Int.tdiv x0_1 128)) y151) = some r := rp_ H hy151
 have Ny151 := Aside0.mk hy151
 clear hy151
 have H' := Aside0.mk H
 clear H
 go_wp2_with (first | ((with_reducible refine gate_builtin (b := .append) (xs := #[.tmp 7, .tmp 12]) rfl ?_); at_builtin; refine Kd.R_append (Kd.int .u8) (w0 := w) w.heap.size rfl (.tmp 7) (.tmp 12) 61 5 (.int .u8 0) 1 rfl Tryd.underlying61 info5 rfl (by decide) (by omega) u3 x3_1 ((wrap64 ((Int.tmod x0_1 128) + 128)) % 256) [.int .u8 ((wrap64 ((Int.tmod x0_1 128) + 128)) % 256)] (fun _ => True) (fun _ => False) rfl rfl ?aP (fun _ hk => hk.elim) ?aF ?aO ?aB ?aS ?aL ?_; (case aP => exact rfl); (case aB => exact bl_); (case aF => exact (fun _ _ => trivial)); (case aO => exact (ra_ HO_3.out)); (case aS => exact (below_size bl_)); (case aL => have := LMc5.out; omega); intro v152 w6 ho hb hg hat; rw [← Ny151.out] at ho; replace HB := Aside0.mk (hb); have HO153 := Aside0.mk (ho); clear HO_3; clear ho hb hg hat))
 go_roundg k1
 case measure => have := HK1.out; omega
 case rel => exact ⟨(wrap64 (Int.tdiv x0_1 128)), (y151), (sr_), H', ⟨by have := HK1.out; omega⟩, ⟨ra_ HO153.out⟩, ⟨bl_⟩⟩


def spec_l06Four.f (a0 : Int) : Option (ByteArray) := some (strOfNums (([(a0 / 16777216) % 256, (a0 / 65536) % 256, (a0 / 256) % 256, (a0) % 256] : List Int)))
theorem spec_l06Four.calls (a0 : Int) (r : ByteArray) (w : World) (h : spec_l06Four.f a0 = some r) :
 Calls Tryd.prog 127 #[.int .i64 a0] w fun e w' => e = .returned (.string r) ∧ Below w.heap.size w w' := by
 have HB := Aside0.mk (Below.refl w.heap.size w)
 have H := h
 unfold spec_l06Four.f at H
 clear h
 obtain ⟨y166, hy166⟩ : ∃ y_ : List Int, y_ = (([(a0 / 16777216) % 256, (a0 / 65536) % 256, (a0 / 256) % 256, (a0) % 256] : List Int)) := ⟨_, rfl⟩
 replace H : (some (strOfNums y166)) = some r := rp_ H hy166
 have Ny166 := Aside0.mk hy166
 clear hy166
 obtain rfl := Option.some.inj H
 go_enter Tryd.func127, Tryd.ntmps127
 go_wp2_with (first | ((with_reducible refine gate_dst (N := 14) rfl ?_); refine Kd.R_lit (Kd.int .u8) _ 5 ?hg (N := 14) ?hd (xs := ([(a0 / 16777216) % 256, (a0 / 65536) % 256, (a0 / 256) % 256, (a0) % 256] : List Int)) (inner := [.int .u8 ((a0 / 16777216) % 256), .int .u8 ((a0 / 65536) % 256), .int .u8 ((a0 / 256) % 256), .int .u8 ((a0) % 256)]) (ok := fun _ => True) (okp := fun _ => True) ?hr ?hp (fun _ hk => hk) trivial (Below.refl _ _) (Nat.le_refl _) (by simp) ?_; (case hd => rfl); (case hg => rfl); (case hr => first | (go_simp; done) | (go_simp; rfl)); (case hp => exact (Reps.one (show Kd.M (Kd.int .u8) _ _ _ ((a0 / 16777216) % 256) [.int .u8 ((a0 / 16777216) % 256)] from rfl) (Reps.one (show Kd.M (Kd.int .u8) _ _ _ ((a0 / 65536) % 256) [.int .u8 ((a0 / 65536) % 256)] from rfl) (Reps.one (show Kd.M (Kd.int .u8) _ _ _ ((a0 / 256) % 256) [.int .u8 ((a0 / 256) % 256)] from rfl) (Reps.one (show Kd.M (Kd.int .u8) _ _ _ ((a0) % 256) [.int .u8 ((a0) % 256)] from rfl) (Reps.none _ _)))))); intro v167 w2 ho3 hb hg_ hnew_; clear hg_ hnew_; (first | rw [← Ny166.out] at ho3 | (simp only [Int.reduceToNat] at ho3; rw [← Ny166.out] at ho3)); have HO168 := Aside0.mk (Kd.R_lower ho3 (below_size bl_)); replace HB := Aside0.mk (below_step bl_ hb); clear hb ho3; have hcv4 := own_string (P := Tryd.prog) Tryd.underlying61 Tryd.underlying5 Tryd.underlying9 (Kd.own_of_R HO168.out)))
 go_ret
 exact ⟨er_, bl_⟩

end Go.Proofs.YtdhjolglbcoijaaDoor.PA

namespace Go.Proofs.YtdhjolglbcoijaaDoor.PA
open Go.RowKit Go.Proofs.YtdhjolglbcoijaaDoor.Short Go.Proofs.YtdhjolglbcoijaaDoorW.PrintWords Go.Proofs.YtdhjolglbcoijaaDoorW.PrintLast Go.Proofs.YtdhjolglbcoijaaDoorW.PrintMore
attribute [local go_sem] max2_int min2_int max_two min_two max_three min_three max_four min_four   -- for this text's walks alone
set_option linter.unusedVariables false
set_option linter.unusedSimpArgs false
open Go.Proofs.YtdhjolglbcoijaaDoor.RegAny

def spec_FrameText.f (k : Nat) (a0_0 : Int) (a0_1 : Int) (a0_2 : Int) (a0_3 : Int) (a0_4 : Int) (a0_5 : Int) (a0_6 : Int) : Option (ByteArray × Bool) := (spec_FrameOk.f k a0_0 a0_1 a0_2 a0_3 a0_4 a0_5 a0_6).bind fun t153 => (if t153 = true then ((some (([(a0_0) % 256, (a0_1) % 256] : List Int) : List Int)).bind fun y155 => ((spec_l01Var.f k a0_2).bind fun t158 => (if (strOfNums y155).size + t158.size ≤ 9223372036854775807 then ((some (([(a0_3) % 256] : List Int) : List Int)).bind fun y159 => (if ((strOfNums y155) ++ t158).size + (strOfNums y159).size ≤ 9223372036854775807 then ((spec_l06Four.f a0_4).bind fun t162 => (if (((strOfNums y155) ++ t158) ++ (strOfNums y159)).size + t162.size ≤ 9223372036854775807 then ((spec_l06Four.f a0_5).bind fun t163 => (if ((((strOfNums y155) ++ t158) ++ (strOfNums y159)) ++ t162).size + t163.size ≤ 9223372036854775807 then ((spec_l01Var.f k a0_6).bind fun t164 => (if (((((strOfNums y155) ++ t158) ++ (strOfNums y159)) ++ t162) ++ t163).size + t164.size ≤ 9223372036854775807 then ((spec_Sealed.f k ((((((strOfNums y155) ++ t158) ++ (strOfNums y159)) ++ t162) ++ t163) ++ t164)).bind fun bt165 => (some (bt165.1, bt165.2))) else (none))) else (none))) else (none))) else (none))) else (none)))) else (some ((⟨#[]⟩ : ByteArray), false)))
theorem spec_FrameText.mono : ∀ a0 a1 a2 a3 a4 a5 a6 k, LeO (spec_FrameText.f k a0 a1 a2 a3 a4 a5 a6) (spec_FrameText.f (k + 1) a0 a1 a2 a3 a4 a5 a6) := by
 intro a0 a1 a2 a3 a4 a5 a6 k
 unfold spec_FrameText.f
 have m0 := @spec_FrameOk.mono
 have m1 := @spec_Sealed.mono
 have m2 := @spec_l01Var.mono
 exact mo_
def spec_FrameText.T4 : Bool × List (List Nat × List Nat) := (true, [([], []), ([0], [0]), ([1], [1]), ([], []), ([3], [3]), ([4], [4]), ([2, 5], [2, 5]), ([6], [6]), ([], []), ([8], [8]), ([9], [9]), ([7, 10], [7, 10]), ([], []), ([12], [12]), ([13], [13]), ([14], [14]), ([15], [15]), ([11, 16], [11, 16]), ([], []), ([18], [18]), ([19, 10], [19]), ([17, 20], [17, 20]), ([], []), ([22], [22]), ([23, 20], [23]), ([21, 24], [21, 24]), ([], []), ([26], [26]), ([27, 24], [27]), ([25, 28], [25, 28]), ([29, 28], [29]), ([30], [30]), ([30], [30]), ([31, 30, 0, 1, 2, 3, 4, 5, 6, 7, 8, 9, 10, 11, 12, 13, 14, 15, 16, 17, 18, 19, 20, 21, 22, 23, 24, 25, 26, 27, 28, 29, 30, 31, 32], [31]), ([32, 33, 0, 1, 2, 3, 4, 5, 6, 7, 8, 9, 10, 11, 12, 13, 14, 15, 16, 17, 18, 19, 20, 21, 22, 23, 24, 25, 26, 27, 28, 29, 30, 31, 32, 33], [32])])
def spec_FrameText.B4 : List Nat := [0, 1, 3, 0, 8, 24, 63, 127, 0, 256, 768, 2047, 0, 4096, 12288, 28672, 61440, 131071, 0, 262144, 788224, 2097151, 0, 4194304, 14419712, 33554431, 0, 67108864, 232523520, 536870911, 1073741823, 2147483647, 2147483647, 8589934591, 17179869183]
theorem spec_FrameText.tab4 : rtab .any (opsOf Tryd.f110 4) = spec_FrameText.T4 := by kernel_rfl
theorem spec_FrameText.bits4 : waitsOk spec_FrameText.T4.2 spec_FrameText.B4 = true := by kernel_rfl
theorem spec_FrameText.calls (k : Nat) (a0_0 : Int) (a0_1 : Int) (a0_2 : Int) (a0_3 : Int) (a0_4 : Int) (a0_5 : Int) (a0_6 : Int) (r1 : ByteArray) (r2 : Bool) (w : World) (h : spec_FrameText.f k a0_0 a0_1 a0_2 a0_3 a0_4 a0_5 a0_6 = some (r1, r2)) :
 Calls Tryd.prog 110 #[.agg #[.int .i64 a0_0, .int .i64 a0_1, .int .i64 a0_2, .int .i64 a0_3, .int .i64 a0_4, .int .i64 a0_5, .int .i64 a0_6]] w fun e w' => e = .returned (.tuple #[.string r1, .bool r2]) ∧ Below w.heap.size w w' := by
 have hu115 := Tryd.underlying115
 have hu68 := Tryd.underlying68
 have HB := Aside0.mk (Below.refl w.heap.size w)
 unfold spec_FrameText.f at h
 obtain ⟨t153, A20, h⟩ := Option.bind_eq_some_iff.mp h
 have A2 := Aside0.mk A20
 clear A20
 split at h
 ·rename_i c3
  subst c3
  simp only [Option.bind_some] at h
  obtain ⟨t158, A40, h⟩ := Option.bind_eq_some_iff.mp h
  have A4 := Aside0.mk A40
  clear A40
  obtain ⟨c6, h⟩ := ite_some h
  obtain ⟨c7, h⟩ := ite_some h
  obtain ⟨t162, A80, h⟩ := Option.bind_eq_some_iff.mp h
  have A8 := Aside0.mk A80
  clear A80
  obtain ⟨c9, h⟩ := ite_some h
  obtain ⟨t163, A100, h⟩ := Option.bind_eq_some_iff.mp h
  have A10 := Aside0.mk A100
  clear A100
  obtain ⟨c11, h⟩ := ite_some h
  obtain ⟨t164, A110, h⟩ := Option.bind_eq_some_iff.mp h
  have A11 := Aside0.mk A110
  clear A110
  obtain ⟨c12, h⟩ := ite_some h
  obtain ⟨⟨t165, t166⟩, A130, h⟩ := Option.bind_eq_some_iff.mp h
  have A13 := Aside0.mk A130
  clear A130
  simp only [Option.some.injEq, Prod.mk.injEq] at h
  obtain ⟨rfl, rfl⟩ := h
  have C6 := Aside0.mk c6
  have C7 := Aside0.mk c7
  have C9 := Aside0.mk c9
  have C11 := Aside0.mk c11
  have C12 := Aside0.mk c12
  clear c6 c7 c9 c11 c12
  go_enter Tryd.func110, Tryd.ntmps110
  go_wp2_with (first
   | ((with_reducible refine gate_dst (N := 1) rfl ?_); refine box_event rfl (N := 1) rfl (cs := #[.int .i64 a0_0, .int .i64 a0_1, .int .i64 a0_2, .int .i64 a0_3, .int .i64 a0_4, .int .i64 a0_5, .int .i64 a0_6]) (t := 115) (by kernel_rfl) ?_; intro g hg w1 hbox hb; have BK := Aside0.mk hbox; have GE := Aside0.mk (by rw [hg]; exact below_size HB.out : w.heap.size ≤ g); have n1_ := Aside0.mk (below_step HB.out hb); clear HB; have HB := n1_; clear n1_ hbox hb hg; have z0 : w1.cell? ⟨g, 0, none⟩ = some (.int .i64 a0_0) := (blk_cell BK.out 0).trans rfl; have z1 : w1.cell? ⟨g, 1, none⟩ = some (.int .i64 a0_1) := (blk_cell BK.out 1).trans rfl; have z2 : w1.cell? ⟨g, 2, none⟩ = some (.int .i64 a0_2) := (blk_cell BK.out 2).trans rfl; have z3 : w1.cell? ⟨g, 3, none⟩ = some (.int .i64 a0_3) := (blk_cell BK.out 3).trans rfl; have z4 : w1.cell? ⟨g, 4, none⟩ = some (.int .i64 a0_4) := (blk_cell BK.out 4).trans rfl; have z5 : w1.cell? ⟨g, 5, none⟩ = some (.int .i64 a0_5) := (blk_cell BK.out 5).trans rfl; have z6 : w1.cell? ⟨g, 6, none⟩ = some (.int .i64 a0_6) := (blk_cell BK.out 6).trans rfl)
   | (go_at_call 126; (with_reducible refine (spec_FrameOk.calls k a0_0 a0_1 a0_2 a0_3 a0_4 a0_5 a0_6 true _ A2.out).mono ?_); rintro e w2 ⟨rfl, hb⟩; have n1_ := Aside0.mk (below_step HB.out hb); have n2_ := Aside0.mk (blk_below BK.out hb); clear HB BK z0 z1 z2 z3 z4 z5 z6; have HB := n1_; have BK := n2_; clear n1_ n2_ hb; have z0 : w2.cell? ⟨g, 0, none⟩ = some (.int .i64 a0_0) := (blk_cell BK.out 0).trans rfl; have z1 : w2.cell? ⟨g, 1, none⟩ = some (.int .i64 a0_1) := (blk_cell BK.out 1).trans rfl; have z2 : w2.cell? ⟨g, 2, none⟩ = some (.int .i64 a0_2) := (blk_cell BK.out 2).trans rfl; have z3 : w2.cell? ⟨g, 3, none⟩ = some (.int .i64 a0_3) := (blk_cell BK.out 3).trans rfl; have z4 : w2.cell? ⟨g, 4, none⟩ = some (.int .i64 a0_4) := (blk_cell BK.out 4).trans rfl; have z5 : w2.cell? ⟨g, 5, none⟩ = some (.int .i64 a0_5) := (blk_cell BK.out 5).trans rfl; have z6 : w2.cell? ⟨g, 6, none⟩ = some (.int .i64 a0_6) := (blk_cell BK.out 6).trans rfl))
  have BX := Aside0.mk (show (w2.alloc (.cells #[.int .i64 a0_3, .int .i64 a0_4, .int .i64 a0_5, .int .i64 a0_6] 68)).heap[w2.heap.size]? = some (.cells #[.int .i64 a0_3, .int .i64 a0_4, .int .i64 a0_5, .int .i64 a0_6] 68 (0, 0)) from blk_new w2 _)
  have n1_ := Aside0.mk (below_alloc HB.out (.cells #[.int .i64 a0_3, .int .i64 a0_4, .int .i64 a0_5, .int .i64 a0_6] 68))
  have n2_ := Aside0.mk (blk_alloc BK.out (.cells #[.int .i64 a0_3, .int .i64 a0_4, .int .i64 a0_5, .int .i64 a0_6] 68))
  clear HB BK z0 z1 z2 z3 z4 z5 z6
  generalize w2.alloc (.cells #[.int .i64 a0_3, .int .i64 a0_4, .int .i64 a0_5, .int .i64 a0_6] 68) = w4 at BX n1_ n2_ ⊢
  generalize w2.heap.size = g4 at BX ⊢
  have HB := n1_
  have BK := n2_
  clear n1_ n2_
  obtain ⟨D, hD⟩ : ∃ D : Slots, D = [(10, Is (.pointer (some ⟨g, 0, none⟩))), (11, Is (.int .i64 a0_0)), (12, Is (.int .u8 (a0_0 % 256))), (13, Is (.pointer (some ⟨g, 1, none⟩))), (14, Is (.int .i64 a0_1)), (15, Is (.int .u8 (a0_1 % 256))), (16, fun w_ v_ => Kd.R (Kd.int .u8) 5 w_ w.heap.size (fun _ => True) v_ [a0_0 % 256, a0_1 % 256]), (17, Is (.string (strOfNums [a0_0 % 256, a0_1 % 256]))), (18, Is (.pointer (some ⟨g, 2, none⟩))), (19, Is (.int .i64 a0_2)), (20, Is (.string (t158))), (21, Is (.string (strOfNums [a0_0 % 256, a0_1 % 256] ++ t158))), (22, Is (.pointer (some ⟨g4, 0, none⟩))), (23, Is (.int .i64 a0_3)), (24, Is (.int .u8 (a0_3 % 256))), (25, fun w_ v_ => Kd.R (Kd.int .u8) 5 w_ w.heap.size (fun _ => True) v_ [a0_3 % 256]), (26, Is (.string (strOfNums [a0_3 % 256]))), (27, Is (.string ((strOfNums [a0_0 % 256, a0_1 % 256] ++ t158) ++ strOfNums [a0_3 % 256]))), (28, Is (.pointer (some ⟨g4, 1, none⟩))), (29, Is (.int .i64 a0_4)), (30, Is (.string (t162))), (31, Is (.string (((strOfNums [a0_0 % 256, a0_1 % 256] ++ t158) ++ strOfNums [a0_3 % 256]) ++ t162))), (32, Is (.pointer (some ⟨g4, 2, none⟩))), (33, Is (.int .i64 a0_5)), (34, Is (.string (t163))), (35, Is (.string ((((strOfNums [a0_0 % 256, a0_1 % 256] ++ t158) ++ strOfNums [a0_3 % 256]) ++ t162) ++ t163))), (36, Is (.pointer (some ⟨g4, 3, none⟩))), (37, Is (.int .i64 a0_6)), (38, Is (.string (t164))), (39, Is (.string (((((strOfNums [a0_0 % 256, a0_1 % 256] ++ t158) ++ strOfNums [a0_3 % 256]) ++ t162) ++ t163) ++ t164))), (40, Is (.tuple #[.string t165, .bool t166])), (41, Is (.string (t165))), (42, Is (.bool t166)), (2, Is (.string (t165))), (3, Is (.bool t166))] := ⟨_, rfl⟩
  have hM : Stays fun w' => w'.heap[g]? = some (.cells #[.int .i64 a0_0, .int .i64 a0_1, .int .i64 a0_2, .int .i64 a0_3, .int .i64 a0_4, .int .i64 a0_5, .int .i64 a0_6] 115 (0, 0)) ∧ w'.heap[g4]? = some (.cells #[.int .i64 a0_3, .int .i64 a0_4, .int .i64 a0_5, .int .i64 a0_6] 68 (0, 0)) ∧ Below w.heap.size w w' := fun _ _ h hb => ⟨blk_below h.1 hb, blk_below h.2.1 hb, below_step h.2.2 hb⟩
  have hV : ∀ e ∈ D, ∀ v, Stays fun w => e.2 w v := by
   rw [hD]
   repeat' first | exact List.forall_mem_nil _ | refine List.forall_mem_cons.2 ⟨?_, ?_⟩
   all_goals first | exact fun v => Is_stays _ v | exact fun v w1 w2 h hb => Kd.R_below h hb
  have hnd : (D.map (·.1)).Nodup := by rw [hD]; exact of_decide_eq_true rfl
  refine region_any (n := 35) (wb := w) (M := fun w' => w'.heap[g]? = some (.cells #[.int .i64 a0_0, .int .i64 a0_1, .int .i64 a0_2, .int .i64 a0_3, .int .i64 a0_4, .int .i64 a0_5, .int .i64 a0_6] 115 (0, 0)) ∧ w'.heap[g4]? = some (.cells #[.int .i64 a0_3, .int .i64 a0_4, .int .i64 a0_5, .int .i64 a0_6] 68 (0, 0)) ∧ Below w.heap.size w w') (D := D) (Array.replicate 35 false) (by kernel_rfl) spec_FrameText.tab4 spec_FrameText.bits4 (by kernel_rfl) rfl rfl (by kernel_rfl) (below_drew1 HB.out) ⟨blk_drew BK.out, blk_drew BX.out, below_drew1 HB.out⟩ ?_ ?_
  ·show ∀ i ∈ [0, 1, 2, 3, 4, 5, 6, 7, 8, 9, 10, 11, 12, 13, 14, 15, 16, 17, 18, 19, 20, 21, 22, 23, 24, 25, 26, 27, 28, 29, 30, 31, 32, 33, 34], _
   refine steps_cons ?_ (steps_cons ?_ (steps_cons ?_ (steps_cons ?_ (steps_cons ?_ (steps_cons ?_ (steps_cons ?_ (steps_cons ?_ (steps_cons ?_ (steps_cons ?_ (steps_cons ?_ (steps_cons ?_ (steps_cons ?_ (steps_cons ?_ (steps_cons ?_ (steps_cons ?_ (steps_cons ?_ (steps_cons ?_ (steps_cons ?_ (steps_cons ?_ (steps_cons ?_ (steps_cons ?_ (steps_cons ?_ (steps_cons ?_ (steps_cons ?_ (steps_cons ?_ (steps_cons ?_ (steps_cons ?_ (steps_cons ?_ (steps_cons ?_ (steps_cons ?_ (steps_cons ?_ (steps_cons ?_ (steps_cons ?_ (steps_cons ?_ (steps_nil)))))))))))))))))))))))))))))))))))
   ·refine step_of _ _ hM hV hnd (by rw [hD]; rfl) rfl rfl rfl (of_decide_eq_true rfl) (within_of (by kernel_rfl) _) ?_
    intro a w9 hm hold hdep
    have e0 := eval_of ((hold 1 (by rw [hD]; rfl)).trans rfl)
    exact gPure (by first | (go_simp; done) | (go_simp; rfl))
   ·refine step_of _ _ hM hV hnd (by rw [hD]; rfl) rfl rfl rfl (of_decide_eq_true rfl) (within_of (by kernel_rfl) _) ?_
    intro a w9 hm hold hdep
    obtain ⟨_, h0, rfl⟩ := hdep 0 _ (by rw [hD]; rfl) (by rfl)
    have e0 := eval_of h0
    have z := (blk_cell hm.1 0).trans rfl
    exact gPure (by first | (go_simp; done) | (go_simp; rfl))
   ·refine step_of _ _ hM hV hnd (by rw [hD]; rfl) rfl rfl rfl (of_decide_eq_true rfl) (within_of (by kernel_rfl) _) ?_
    intro a w9 hm hold hdep
    obtain ⟨_, h0, rfl⟩ := hdep 1 _ (by rw [hD]; rfl) (by rfl)
    have e0 := eval_of h0
    exact gPure (by first | (go_simp; done) | (go_simp; rfl))
   ·refine step_of _ _ hM hV hnd (by rw [hD]; rfl) rfl rfl rfl (of_decide_eq_true rfl) (within_of (by kernel_rfl) _) ?_
    intro a w9 hm hold hdep
    have e0 := eval_of ((hold 1 (by rw [hD]; rfl)).trans rfl)
    exact gPure (by first | (go_simp; done) | (go_simp; rfl))
   ·refine step_of _ _ hM hV hnd (by rw [hD]; rfl) rfl rfl rfl (of_decide_eq_true rfl) (within_of (by kernel_rfl) _) ?_
    intro a w9 hm hold hdep
    obtain ⟨_, h0, rfl⟩ := hdep 3 _ (by rw [hD]; rfl) (by rfl)
    have e0 := eval_of h0
    have z := (blk_cell hm.1 1).trans rfl
    exact gPure (by first | (go_simp; done) | (go_simp; rfl))
   ·refine step_of _ _ hM hV hnd (by rw [hD]; rfl) rfl rfl rfl (of_decide_eq_true rfl) (within_of (by kernel_rfl) _) ?_
    intro a w9 hm hold hdep
    obtain ⟨_, h0, rfl⟩ := hdep 4 _ (by rw [hD]; rfl) (by rfl)
    have e0 := eval_of h0
    exact gPure (by first | (go_simp; done) | (go_simp; rfl))
   ·refine step_of _ _ hM hV hnd (by rw [hD]; rfl) rfl rfl rfl (of_decide_eq_true rfl) (within_of (by kernel_rfl) _) ?_
    intro a w9 hm hold hdep
    obtain ⟨_, h0, rfl⟩ := hdep 2 _ (by rw [hD]; rfl) (by rfl)
    have e0 := eval_of h0
    obtain ⟨_, h1, rfl⟩ := hdep 5 _ (by rw [hD]; rfl) (by rfl)
    have e1 := eval_of h1
    refine .inl ⟨.slice (some ⟨w9.heap.size, 0, none⟩) 2 2, w9.alloc (.cells #[.int .u8 (a0_0 % 256), .int .u8 (a0_1 % 256)] 5 (0, 0)), (by first | (go_simp; done) | (go_simp; rfl)), ?_, below_alloc (Below.refl _ _) _⟩
    have h2 := World.ownsRow_lit (base := w.heap.size) (e := 5) (size := 1) w9 #[.int .u8 (a0_0 % 256), .int .u8 (a0_1 % 256)] 2 (below_size hm.2.2) (by decide) (by rfl)
    exact Kd.R_of_own (enc := Value.int .u8) (h1 := fun _ => rfl) (by simpa [encs] using h2) (fun _ _ => trivial)
   ·refine step_of _ _ hM hV hnd (by rw [hD]; rfl) rfl rfl rfl (of_decide_eq_true rfl) (within_of (by kernel_rfl) _) ?_
    intro a w9 hm hold hdep
    obtain ⟨v0, h0, r0⟩ := hdep 6 _ (by rw [hD]; rfl) (by rfl)
    have e0 := eval_of h0
    obtain ⟨A, c, rfl, _, hC⟩ := Kd.R_reads r0
    have kc : (convert 61 9 (.slice A 2 c)).run Tryd.prog w9 = _ := Kd.C_string (P := Tryd.prog) (c := c) Tryd.underlying61 Tryd.underlying5 Tryd.underlying9 hC
    exact gPure (by first | (go_simp; done) | (go_simp; rfl))
   ·refine step_of _ _ hM hV hnd (by rw [hD]; rfl) rfl rfl rfl (of_decide_eq_true rfl) (within_of (by kernel_rfl) _) ?_
    intro a w9 hm hold hdep
    have e0 := eval_of ((hold 1 (by rw [hD]; rfl)).trans rfl)
    exact gPure (by first | (go_simp; done) | (go_simp; rfl))
   ·refine step_of _ _ hM hV hnd (by rw [hD]; rfl) rfl rfl rfl (of_decide_eq_true rfl) (within_of (by kernel_rfl) _) ?_
    intro a w9 hm hold hdep
    obtain ⟨_, h0, rfl⟩ := hdep 8 _ (by rw [hD]; rfl) (by rfl)
    have e0 := eval_of h0
    have z := (blk_cell hm.1 2).trans rfl
    exact gPure (by first | (go_simp; done) | (go_simp; rfl))
   ·refine step_of _ _ hM hV hnd (by rw [hD]; rfl) rfl rfl rfl (of_decide_eq_true rfl) (within_of (by kernel_rfl) _) ?_
    intro a w9 hm hold hdep
    obtain ⟨_, h0, rfl⟩ := hdep 9 _ (by rw [hD]; rfl) (by rfl)
    have e0 := eval_of h0
    refine .inr ⟨76, #[.int .i64 a0_2], (by first | (go_simp; done) | (go_simp; rfl)), (spec_l01Var.calls k a0_2 t158 _ A4.out).mono ?_⟩
    rintro e w2 ⟨rfl, hb⟩
    exact ⟨_, rfl, rfl, hb⟩
   ·refine step_of _ _ hM hV hnd (by rw [hD]; rfl) rfl rfl rfl (of_decide_eq_true rfl) (within_of (by kernel_rfl) _) ?_
    intro a w9 hm hold hdep
    obtain ⟨_, h0, rfl⟩ := hdep 7 _ (by rw [hD]; rfl) (by rfl)
    have e0 := eval_of h0
    obtain ⟨_, h1, rfl⟩ := hdep 10 _ (by rw [hD]; rfl) (by rfl)
    have e1 := eval_of h1
    have c := C6.out
    try simp only [ByteArray.size_append] at c
    exact gPure (by first | (go_simp; done) | (go_simp; rfl) | (go_simp; exact c))
   ·refine step_of _ _ hM hV hnd (by rw [hD]; rfl) rfl rfl rfl (of_decide_eq_true rfl) (within_of (by kernel_rfl) _) ?_
    intro a w9 hm hold hdep
    have e0 := eval_of ((hold 4 (by rw [hD]; rfl)).trans rfl)
    exact gPure (by first | (go_simp; done) | (go_simp; rfl))
   ·refine step_of _ _ hM hV hnd (by rw [hD]; rfl) rfl rfl rfl (of_decide_eq_true rfl) (within_of (by kernel_rfl) _) ?_
    intro a w9 hm hold hdep
    obtain ⟨_, h0, rfl⟩ := hdep 12 _ (by rw [hD]; rfl) (by rfl)
    have e0 := eval_of h0
    have z := (blk_cell hm.2.1 0).trans rfl
    exact gPure (by first | (go_simp; done) | (go_simp; rfl))
   ·refine step_of _ _ hM hV hnd (by rw [hD]; rfl) rfl rfl rfl (of_decide_eq_true rfl) (within_of (by kernel_rfl) _) ?_
    intro a w9 hm hold hdep
    obtain ⟨_, h0, rfl⟩ := hdep 13 _ (by rw [hD]; rfl) (by rfl)
    have e0 := eval_of h0
    exact gPure (by first | (go_simp; done) | (go_simp; rfl))
   ·refine step_of _ _ hM hV hnd (by rw [hD]; rfl) rfl rfl rfl (of_decide_eq_true rfl) (within_of (by kernel_rfl) _) ?_
    intro a w9 hm hold hdep
    obtain ⟨_, h0, rfl⟩ := hdep 14 _ (by rw [hD]; rfl) (by rfl)
    have e0 := eval_of h0
    refine .inl ⟨.slice (some ⟨w9.heap.size, 0, none⟩) 1 1, w9.alloc (.cells #[.int .u8 (a0_3 % 256)] 5 (0, 0)), (by first | (go_simp; done) | (go_simp; rfl)), ?_, below_alloc (Below.refl _ _) _⟩
    have h2 := World.ownsRow_lit (base := w.heap.size) (e := 5) (size := 1) w9 #[.int .u8 (a0_3 % 256)] 1 (below_size hm.2.2) (by decide) (by rfl)
    exact Kd.R_of_own (enc := Value.int .u8) (h1 := fun _ => rfl) (by simpa [encs] using h2) (fun _ _ => trivial)
   ·refine step_of _ _ hM hV hnd (by rw [hD]; rfl) rfl rfl rfl (of_decide_eq_true rfl) (within_of (by kernel_rfl) _) ?_
    intro a w9 hm hold hdep
    obtain ⟨v0, h0, r0⟩ := hdep 15 _ (by rw [hD]; rfl) (by rfl)
    have e0 := eval_of h0
    obtain ⟨A, c, rfl, _, hC⟩ := Kd.R_reads r0
    have kc : (convert 61 9 (.slice A 1 c)).run Tryd.prog w9 = _ := Kd.C_string (P := Tryd.prog) (c := c) Tryd.underlying61 Tryd.underlying5 Tryd.underlying9 hC
    exact gPure (by first | (go_simp; done) | (go_simp; rfl))
   ·refine step_of _ _ hM hV hnd (by rw [hD]; rfl) rfl rfl rfl (of_decide_eq_true rfl) (within_of (by kernel_rfl) _) ?_
    intro a w9 hm hold hdep
    obtain ⟨_, h0, rfl⟩ := hdep 11 _ (by rw [hD]; rfl) (by rfl)
    have e0 := eval_of h0
    obtain ⟨_, h1, rfl⟩ := hdep 16 _ (by rw [hD]; rfl) (by rfl)
    have e1 := eval_of h1
    have c := C7.out
    try simp only [ByteArray.size_append] at c
    exact gPure (by first | (go_simp; done) | (go_simp; rfl) | (go_simp; exact c))
   ·refine step_of _ _ hM hV hnd (by rw [hD]; rfl) rfl rfl rfl (of_decide_eq_true rfl) (within_of (by kernel_rfl) _) ?_
    intro a w9 hm hold hdep
    have e0 := eval_of ((hold 4 (by rw [hD]; rfl)).trans rfl)
    exact gPure (by first | (go_simp; done) | (go_simp; rfl))
   ·refine step_of _ _ hM hV hnd (by rw [hD]; rfl) rfl rfl rfl (of_decide_eq_true rfl) (within_of (by kernel_rfl) _) ?_
    intro a w9 hm hold hdep
    obtain ⟨_, h0, rfl⟩ := hdep 18 _ (by rw [hD]; rfl) (by rfl)
    have e0 := eval_of h0
    have z := (blk_cell hm.2.1 1).trans rfl
    exact gPure (by first | (go_simp; done) | (go_simp; rfl))
   ·refine step_of _ _ hM hV hnd (by rw [hD]; rfl) rfl rfl rfl (of_decide_eq_true rfl) (within_of (by kernel_rfl) _) ?_
    intro a w9 hm hold hdep
    obtain ⟨_, h0, rfl⟩ := hdep 19 _ (by rw [hD]; rfl) (by rfl)
    have e0 := eval_of h0
    refine .inr ⟨127, #[.int .i64 a0_4], (by first | (go_simp; done) | (go_simp; rfl)), (spec_l06Four.calls a0_4 t162 _ A8.out).mono ?_⟩
    rintro e w2 ⟨rfl, hb⟩
    exact ⟨_, rfl, rfl, hb⟩
   ·refine step_of _ _ hM hV hnd (by rw [hD]; rfl) rfl rfl rfl (of_decide_eq_true rfl) (within_of (by kernel_rfl) _) ?_
    intro a w9 hm hold hdep
    obtain ⟨_, h0, rfl⟩ := hdep 17 _ (by rw [hD]; rfl) (by rfl)
    have e0 := eval_of h0
    obtain ⟨_, h1, rfl⟩ := hdep 20 _ (by rw [hD]; rfl) (by rfl)
    have e1 := eval_of h1
    have c := C9.out
    try simp only [ByteArray.size_append] at c
    exact gPure (by first | (go_simp; done) | (go_simp; rfl) | (go_simp; exact c))
   ·refine step_of _ _ hM hV hnd (by rw [hD]; rfl) rfl rfl rfl (of_decide_eq_true rfl) (within_of (by kernel_rfl) _) ?_
    intro a w9 hm hold hdep
    have e0 := eval_of ((hold 4 (by rw [hD]; rfl)).trans rfl)
    exact gPure (by first | (go_simp; done) | (go_simp; rfl))
   ·refine step_of _ _ hM hV hnd (by rw [hD]; rfl) rfl rfl rfl (of_decide_eq_true rfl) (within_of (by kernel_rfl) _) ?_
    intro a w9 hm hold hdep
    obtain ⟨_, h0, rfl⟩ := hdep 22 _ (by rw [hD]; rfl) (by rfl)
    have e0 := eval_of h0
    have z := (blk_cell hm.2.1 2).trans rfl
    exact gPure (by first | (go_simp; done) | (go_simp; rfl))
   ·refine step_of _ _ hM hV hnd (by rw [hD]; rfl) rfl rfl rfl (of_decide_eq_true rfl) (within_of (by kernel_rfl) _) ?_
    intro a w9 hm hold hdep
    obtain ⟨_, h0, rfl⟩ := hdep 23 _ (by rw [hD]; rfl) (by rfl)
    have e0 := eval_of h0
    refine .inr ⟨127, #[.int .i64 a0_5], (by first | (go_simp; done) | (go_simp; rfl)), (spec_l06Four.calls a0_5 t163 _ A10.out).mono ?_⟩
    rintro e w2 ⟨rfl, hb⟩
    exact ⟨_, rfl, rfl, hb⟩
   ·refine step_of _ _ hM hV hnd (by rw [hD]; rfl) rfl rfl rfl (of_decide_eq_true rfl) (within_of (by kernel_rfl) _) ?_
    intro a w9 hm hold hdep
    obtain ⟨_, h0, rfl⟩ := hdep 21 _ (by rw [hD]; rfl) (by rfl)
    have e0 := eval_of h0
    obtain ⟨_, h1, rfl⟩ := hdep 24 _ (by rw [hD]; rfl) (by rfl)
    have e1 := eval_of h1
    have c := C11.out
    try simp only [ByteArray.size_append] at c
    exact gPure (by first | (go_simp; done) | (go_simp; rfl) | (go_simp; exact c))
   ·refine step_of _ _ hM hV hnd (by rw [hD]; rfl) rfl rfl rfl (of_decide_eq_true rfl) (within_of (by kernel_rfl) _) ?_
    intro a w9 hm hold hdep
    have e0 := eval_of ((hold 4 (by rw [hD]; rfl)).trans rfl)
    exact gPure (by first | (go_simp; done) | (go_simp; rfl))
   ·refine step_of _ _ hM hV hnd (by rw [hD]; rfl) rfl rfl rfl (of_decide_eq_true rfl) (within_of (by kernel_rfl) _) ?_
    intro a w9 hm hold hdep
    obtain ⟨_, h0, rfl⟩ := hdep 26 _ (by rw [hD]; rfl) (by rfl)
    have e0 := eval_of h0
    have z := (blk_cell hm.2.1 3).trans rfl
    exact gPure (by first | (go_simp; done) | (go_simp; rfl))
   ·refine step_of _ _ hM hV hnd (by rw [hD]; rfl) rfl rfl rfl (of_decide_eq_true rfl) (within_of (by kernel_rfl) _) ?_
    intro a w9 hm hold hdep
    obtain ⟨_, h0, rfl⟩ := hdep 27 _ (by rw [hD]; rfl) (by rfl)
    have e0 := eval_of h0
    refine .inr ⟨76, #[.int .i64 a0_6], (by first | (go_simp; done) | (go_simp; rfl)), (spec_l01Var.calls k a0_6 t164 _ A11.out).mono ?_⟩
    rintro e w2 ⟨rfl, hb⟩
    exact ⟨_, rfl, rfl, hb⟩
   ·refine step_of _ _ hM hV hnd (by rw [hD]; rfl) rfl rfl rfl (of_decide_eq_true rfl) (within_of (by kernel_rfl) _) ?_
    intro a w9 hm hold hdep
    obtain ⟨_, h0, rfl⟩ := hdep 25 _ (by rw [hD]; rfl) (by rfl)
    have e0 := eval_of h0
    obtain ⟨_, h1, rfl⟩ := hdep 28 _ (by rw [hD]; rfl) (by rfl)
    have e1 := eval_of h1
    have c := C12.out
    try simp only [ByteArray.size_append] at c
    exact gPure (by first | (go_simp; done) | (go_simp; rfl) | (go_simp; exact c))
   ·refine step_of _ _ hM hV hnd (by rw [hD]; rfl) rfl rfl rfl (of_decide_eq_true rfl) (within_of (by kernel_rfl) _) ?_
    intro a w9 hm hold hdep
    obtain ⟨_, h0, rfl⟩ := hdep 29 _ (by rw [hD]; rfl) (by rfl)
    have e0 := eval_of h0
    refine .inr ⟨75, #[.string (((((strOfNums [a0_0 % 256, a0_1 % 256] ++ t158) ++ strOfNums [a0_3 % 256]) ++ t162) ++ t163) ++ t164)], (by first | (go_simp; done) | (go_simp; rfl)), (spec_Sealed.calls k _ t165 t166 _ A13.out).mono ?_⟩
    rintro e w2 ⟨rfl, hb⟩
    exact ⟨_, rfl, rfl, hb⟩
   ·refine step_of _ _ hM hV hnd (by rw [hD]; rfl) rfl rfl rfl (of_decide_eq_true rfl) (within_of (by kernel_rfl) _) ?_
    intro a w9 hm hold hdep
    obtain ⟨_, h0, rfl⟩ := hdep 30 _ (by rw [hD]; rfl) (by rfl)
    have e0 := eval_of h0
    exact gPure (by first | (go_simp; done) | (go_simp; rfl))
   ·refine step_of _ _ hM hV hnd (by rw [hD]; rfl) rfl rfl rfl (of_decide_eq_true rfl) (within_of (by kernel_rfl) _) ?_
    intro a w9 hm hold hdep
    obtain ⟨_, h0, rfl⟩ := hdep 30 _ (by rw [hD]; rfl) (by rfl)
    have e0 := eval_of h0
    exact gPure (by first | (go_simp; done) | (go_simp; rfl))
   ·refine step_of _ _ hM hV hnd (by rw [hD]; rfl) rfl rfl rfl (of_decide_eq_true rfl) (within_of (by kernel_rfl) _) ?_
    intro a w9 hm hold hdep
    obtain ⟨_, h0, rfl⟩ := hdep 31 _ (by rw [hD]; rfl) (by rfl)
    have e0 := eval_of h0
    exact gPure (by first | (go_simp; done) | (go_simp; rfl))
   ·refine step_of _ _ hM hV hnd (by rw [hD]; rfl) rfl rfl rfl (of_decide_eq_true rfl) (within_of (by kernel_rfl) _) ?_
    intro a w9 hm hold hdep
    obtain ⟨_, h0, rfl⟩ := hdep 32 _ (by rw [hD]; rfl) (by rfl)
    have e0 := eval_of h0
    exact gPure (by first | (go_simp; done) | (go_simp; rfl))
  ·intro a w9 hB9 hM9 hsz hdf hold hdone
   rename_i K hK
   obtain ⟨_, h2, rfl⟩ := hdone 33 _ (by decide) (by rw [hD]; rfl)
   obtain ⟨_, h3, rfl⟩ := hdone 34 _ (by decide) (by rw [hD]; rfl)
   show K a w9
   refine hK _ _ ?_
   go_wp2
   refine bodyPost_ret (results_list (rs := [.tmp 2, .tmp 3]) rfl (by simp) (.tmp (.tmp .nil))) (hdf.trans rfl) ⟨?_, hB9⟩
   simp only [Array.getD_eq_getD_getElem?]
   rw [h2, h3]
   rfl
 ·rename_i c3
  have c4 : t153 = false := by simpa using c3
  subst c4
  simp only [Option.some.injEq, Prod.mk.injEq] at h
  obtain ⟨rfl, rfl⟩ := h
  go_enter Tryd.func110, Tryd.ntmps110
  go_wp2_with (first
   | ((with_reducible refine gate_dst (N := 1) rfl ?_); refine box_event rfl (N := 1) rfl (cs := #[.int .i64 a0_0, .int .i64 a0_1, .int .i64 a0_2, .int .i64 a0_3, .int .i64 a0_4, .int .i64 a0_5, .int .i64 a0_6]) (t := 115) (by kernel_rfl) ?_; intro g hg w1 hbox hb; have BK := Aside0.mk hbox; have GE := Aside0.mk (by rw [hg]; exact below_size HB.out : w.heap.size ≤ g); have n1_ := Aside0.mk (below_step HB.out hb); clear HB; have HB := n1_; clear n1_ hbox hb hg; have z0 : w1.cell? ⟨g, 0, none⟩ = some (.int .i64 a0_0) := (blk_cell BK.out 0).trans rfl; have z1 : w1.cell? ⟨g, 1, none⟩ = some (.int .i64 a0_1) := (blk_cell BK.out 1).trans rfl; have z2 : w1.cell? ⟨g, 2, none⟩ = some (.int .i64 a0_2) := (blk_cell BK.out 2).trans rfl; have z3 : w1.cell? ⟨g, 3, none⟩ = some (.int .i64 a0_3) := (blk_cell BK.out 3).trans rfl; have z4 : w1.cell? ⟨g, 4, none⟩ = some (.int .i64 a0_4) := (blk_cell BK.out 4).trans rfl; have z5 : w1.cell? ⟨g, 5, none⟩ = some (.int .i64 a0_5) := (blk_cell BK.out 5).trans rfl; have z6 : w1.cell? ⟨g, 6, none⟩ = some (.int .i64 a0_6) := (blk_cell BK.out 6).trans rfl)
   | (go_at_call 126; (with_reducible refine (spec_FrameOk.calls k a0_0 a0_1 a0_2 a0_3 a0_4 a0_5 a0_6 false _ A2.out).mono ?_); rintro e w2 ⟨rfl, hb⟩; have n1_ := Aside0.mk (below_step HB.out hb); clear HB; have HB := n1_; clear n1_ hb))
  refine bodyPost_ret (results_list (rs := [.tmp 2, .tmp 3]) rfl (by simp) (.tmp (.tmp .nil))) rfl ⟨rfl, HB.out⟩
end Go.Proofs.YtdhjolglbcoijaaDoor.PA

namespace Go.Proofs.YtdhjolglbcoijaaDoor.PA
open Go.RowKit Go.Proofs.YtdhjolglbcoijaaDoor.Short Go.Proofs.YtdhjolglbcoijaaDoorW.PrintWords Go.Proofs.YtdhjolglbcoijaaDoorW.PrintLast Go.Proofs.YtdhjolglbcoijaaDoorW.PrintMore
attribute [local go_sem] max2_int min2_int max_two min_two max_three min_three max_four min_four   -- for this text's walks alone
set_option linter.unusedVariables false
set_option linter.unusedSimpArgs false

def spec_EntryText.f (k : Nat) (a0_0 : Int) (a0_1 : Int) (a0_2 : Int) (a0_3 : Int) (a0_4 : Int) (a0_5 : Int) : Option (ByteArray) := (spec_FrameText.f k 1 a0_0 a0_1 a0_2 a0_3 a0_4 a0_5).bind fun bt185 => (some bt185.1)
theorem spec_EntryText.mono : ∀ a0 a1 a2 a3 a4 a5 k, LeO (spec_EntryText.f k a0 a1 a2 a3 a4 a5) (spec_EntryText.f (k + 1) a0 a1 a2 a3 a4 a5) := by
 intro a0 a1 a2 a3 a4 a5 k
 unfold spec_EntryText.f
 have m0 := @spec_FrameText.mono
 exact mo_
theorem spec_EntryText.calls (k : Nat) (a0_0 : Int) (a0_1 : Int) (a0_2 : Int) (a0_3 : Int) (a0_4 : Int) (a0_5 : Int) (r : ByteArray) (w : World) (h : spec_EntryText.f k a0_0 a0_1 a0_2 a0_3 a0_4 a0_5 = some r) :
 Calls Tryd.prog 64 #[.agg #[.int .i64 a0_0, .int .i64 a0_1, .int .i64 a0_2, .int .i64 a0_3, .int .i64 a0_4, .int .i64 a0_5]] w fun e w' => e = .returned (.string r) ∧ Below w.heap.size w w' := by
 have hu70 := Tryd.underlying70
 have hu68 := Tryd.underlying68
 have hu115 := Tryd.underlying115
 have HB := Aside0.mk (Below.refl w.heap.size w)
 have H := h
 unfold spec_EntryText.f at H
 clear h
 replace H := bs_ H
 obtain ⟨⟨t185, t186⟩, A2, H⟩ := H
 try dsimp only at H
 obtain rfl := Option.some.inj H
 go_enter Tryd.func64, Tryd.ntmps64
 go_wp2_with (first | ((with_reducible refine gate_dst (N := 1) rfl ?_); refine bx_ 1 70 #[.int .i64 a0_0, .int .i64 a0_1, .int .i64 a0_2, .int .i64 a0_3, .int .i64 a0_4, .int .i64 a0_5] ?_; intro gb184 hg w3 hbox hb; have BK184 := Aside0.mk (hbox); have GW184 := Aside0.mk ((hz_ : w.heap.size ≤ gb184)); have GE184 := Aside0.mk ((hz_ : w.heap.size ≤ gb184)); replace HB := Aside0.mk (below_step bl_ hb); clear hb hbox hg; obtain ⟨hcz4_0, hcz4_1, hcz4_2, hcz4_3, hcz4_4, hcz4_5, hfz4_0, hfz4_1, hfz4_2, hfz4_3, hfz4_4, hfz4_5⟩ := cf6_ BK184.out) | ((with_reducible refine gate_callee (f := 110) rfl ?_); refine gs_ (some 13) Tryd.func110 #[.agg #[.int .i64 1, .int .i64 a0_0, .int .i64 a0_1, .int .i64 a0_2, .int .i64 a0_3, .int .i64 a0_4, .int .i64 a0_5]] ?_; (with_reducible refine (spec_FrameText.calls k 1 a0_0 a0_1 a0_2 a0_3 a0_4 a0_5 t185 t186 _ A2.out).mono ?_); rintro e w5 ⟨rfl, hb⟩; refine ⟨_, rfl, ?_⟩; replace BK184 := Aside0.mk (blk_below (bn0_ BK184.out) hb); replace HB := Aside0.mk (below_step bl_ hb); (try clear hb)))
 go_ret
 exact ⟨er_, bl_⟩


def spec_HeadFrom.l0 : Nat → List (S70) → ByteArray → Int → Option (ByteArray)
 | 0, _, _, _ => none
 | k + 1, x1, x5, x6 => if x6 < (x1.length : Int) then (if 0 ≤ x6 then ((spec_EntryText.f k ((rd_T70 x1 x6).f0) ((rd_T70 x1 x6).f1) ((rd_T70 x1 x6).f2.f0) ((rd_T70 x1 x6).f2.f1) ((rd_T70 x1 x6).f2.f2) ((rd_T70 x1 x6).f2.f3)).bind fun t188 => (if x5.size + t188.size ≤ 9223372036854775807 then ((spec_Digest.f (x5 ++ t188)).bind fun t189 => (spec_HeadFrom.l0 k x1 t189 (wrap64 (x6 + 1)))) else (none))) else (none)) else (some x5)
def spec_HeadFrom.f (k : Nat) (a0 : ByteArray) (l1 : List (S70)) : Option (ByteArray) := spec_HeadFrom.l0 k l1 a0 0
theorem spec_HeadFrom.mono_l : ∀ k, (∀ y0 y1 y2, LeO (spec_HeadFrom.l0 k y0 y1 y2) (spec_HeadFrom.l0 (k + 1) y0 y1 y2))
 | 0 => fun _ _ _ r h => by simp [spec_HeadFrom.l0] at h
 | k + 1 => by
  have ih0 := spec_HeadFrom.mono_l k
  ·intro y0 y1 y2
   unfold spec_HeadFrom.l0
   have m0 := @spec_EntryText.mono
   exact mo_
theorem spec_HeadFrom.mono : ∀ a0 a1 k, LeO (spec_HeadFrom.f k a0 a1) (spec_HeadFrom.f (k + 1) a0 a1) := by
 intro a0 a1 k
 have ih0 := spec_HeadFrom.mono_l k
 unfold spec_HeadFrom.f
 have m0 := @spec_EntryText.mono
 exact mo_
theorem spec_HeadFrom.calls (k : Nat) (a0 : ByteArray) (A1 : Option Addr) (c1 : Nat) (l1 : List (S70)) (r : ByteArray) (w : World) (hr1 : Kd.C k70 w A1 l1.length l1) (hc1 : l1.length ≤ c1) (h : spec_HeadFrom.f k a0 l1 = some r) :
 Calls Tryd.prog 71 #[.string a0, .slice A1 l1.length c1] w fun e w' => e = .returned (.string r) ∧ Below w.heap.size w w' := by
 have hu70 := Tryd.underlying70
 have HR1 := Aside0.mk hr1
 have HC1 := Aside0.mk hc1
 clear hr1 hc1
 have HB := Aside0.mk (Below.refl w.heap.size w)
 have H := h
 unfold spec_HeadFrom.f at H
 clear h
 have H' := Aside0.mk H
 clear H
 go_enter Tryd.func71, Tryd.ntmps71
 go_wp2
 go_loopg [5, 6] k (fun kq v5 v6 w' => ∃ (x5_1 : ByteArray) (x6_1 : Int), v5 = .string x5_1 ∧ v6 = .int .i64 x6_1 ∧ Aside0 (spec_HeadFrom.l0 kq l1 x5_1 x6_1 = some r) ∧ Aside0 (kq ≤ k) ∧ Aside0 (Below w.heap.size w w'))
 case atStart => exact ⟨(a0), (0), (sr_), (sr_), H', ⟨Nat.le_refl _⟩, ⟨bl_⟩⟩
 clear H'
 try clear c1
 obtain ⟨x5_1, x6_1, rfl, rfl, HA, HK1, HB⟩ := hrel
 cases gk with
 | zero => exact absurd HA.out (by simp [spec_HeadFrom.l0])
 | succ k1 => ?_
 have H := HA.out
 clear HA
 simp only [spec_HeadFrom.l0] at H
 by_cases c3 : x6_1 < (l1.length : Int)
 rotate_left
 ·rw [if_neg c3] at H
  have c3b0 := decide_eq_false c3
  clear c3
  obtain rfl := Option.some.inj H
  go_wp2
  go_ret
  exact ⟨er_, bl_⟩
 rw [if_pos c3] at H
 have c3b0 := decide_eq_true c3
 clear c3
 by_cases c4 : 0 ≤ x6_1
 rotate_left
 ·exact nn_ c4 H
 rw [if_pos c4] at H
 have c4b0 := decide_eq_true c4
 clear c4
 replace H := bs_ H
 obtain ⟨t188, A5, H⟩ := H
 try dsimp only at H
 by_cases c6 : x5_1.size + t188.size ≤ 9223372036854775807
 rotate_left
 ·exact nn_ c6 H
 rw [if_pos c6] at H
 have c6b0 := eq_true c6
 have c6b1 : decide (x5_1.size + t188.size ≤ 9223372036854775807) = true := decide_eq_true c6
 try have c6b2 : (9223372036854775807 < x5_1.size + t188.size) = False := eq_false (Nat.not_lt.2 c6)
 replace H := bs_ H
 obtain ⟨t189, A7, H⟩ := H
 try dsimp only at H
 have H' := Aside0.mk H
 clear H
 have p187 : 0 ≤ (x6_1 : Int) := of_decide_eq_true as_
 have q187 : x6_1 < (l1.length : Int) := of_decide_eq_true as_
 obtain ⟨ad187, e187, hx187_0, hx187_1, hx187_2, hx187_3, hx187_4, hx187_5⟩ := at_T70 HR1.out x6_1 p187 q187
 cases e187
 replace hx187_0 := (HB.out.cell (World.block_lt_of_cell? w _ hx187_0)).trans hx187_0
 replace hx187_1 := (HB.out.cell (World.block_lt_of_cell? w _ hx187_1)).trans hx187_1
 replace hx187_2 := (HB.out.cell (World.block_lt_of_cell? w _ hx187_2)).trans hx187_2
 replace hx187_3 := (HB.out.cell (World.block_lt_of_cell? w _ hx187_3)).trans hx187_3
 replace hx187_4 := (HB.out.cell (World.block_lt_of_cell? w _ hx187_4)).trans hx187_4
 replace hx187_5 := (HB.out.cell (World.block_lt_of_cell? w _ hx187_5)).trans hx187_5
 replace p187 := eq_true p187
 replace q187 := eq_true q187
 go_wp2_with (first | ((with_reducible refine gate_callee (f := 64) rfl ?_); refine gs_ (some 19) Tryd.func64 #[.agg #[.int .i64 ((rd_T70 l1 x6_1).f0), .int .i64 ((rd_T70 l1 x6_1).f1), .int .i64 ((rd_T70 l1 x6_1).f2.f0), .int .i64 ((rd_T70 l1 x6_1).f2.f1), .int .i64 ((rd_T70 l1 x6_1).f2.f2), .int .i64 ((rd_T70 l1 x6_1).f2.f3)]] ?_; (with_reducible refine (spec_EntryText.calls k1 ((rd_T70 l1 x6_1).f0) ((rd_T70 l1 x6_1).f1) ((rd_T70 l1 x6_1).f2.f0) ((rd_T70 l1 x6_1).f2.f1) ((rd_T70 l1 x6_1).f2.f2) ((rd_T70 l1 x6_1).f2.f3) t188 _ A5.out).mono ?_); rintro e w8 ⟨rfl, hb⟩; refine ⟨_, rfl, ?_⟩; replace HB := Aside0.mk (below_step bl_ hb); (try clear hb)) | ((with_reducible refine gate_callee (f := 56) rfl ?_); refine gs_ (some 21) Tryd.func56 #[.string (x5_1 ++ t188)] ?_; (with_reducible refine (spec_Digest.calls (x5_1 ++ t188) t189 _ A7.out).mono ?_); rintro e w9 ⟨rfl, hb⟩; refine ⟨_, rfl, ?_⟩; replace HB := Aside0.mk (below_step bl_ hb); (try clear hb)))
 go_roundg k1
 case measure => have := HK1.out; omega
 case rel => exact ⟨(t189), (wrap64 (x6_1 + 1)), (sr_), (sr_), H', ⟨by have := HK1.out; omega⟩, ⟨bl_⟩⟩


def laws_markEntryS.l0 : Nat → List (S70) → Int → Int → Option (Int × (List (S70)))
 | 0, _, _, _ => none
 | k + 1, x0, x1, x5 => if x5 < (x0.length : Int) then (if 0 ≤ x5 then ((some (x0.set (x5 : Int).toNat (⟨x1, (rd_T70 x0 x5).f1, (⟨(rd_T70 x0 x5).f2.f0, (rd_T70 x0 x5).f2.f1, (rd_T70 x0 x5).f2.f2, (rd_T70 x0 x5).f2.f3⟩ : S68)⟩ : S70) : List (S70))).bind fun y136 => ((some (y136.set (x5 : Int).toNat (⟨(rd_T70 y136 x5).f0, wrap64 (x1 + 1), (⟨(rd_T70 y136 x5).f2.f0, (rd_T70 y136 x5).f2.f1, (rd_T70 y136 x5).f2.f2, (rd_T70 y136 x5).f2.f3⟩ : S68)⟩ : S70) : List (S70))).bind fun y137 => ((some (y137.set (x5 : Int).toNat (⟨(rd_T70 y137 x5).f0, (rd_T70 y137 x5).f1, (⟨wrap64 ((wrap64 (x1 + 1)) + 1), (rd_T70 y137 x5).f2.f1, (rd_T70 y137 x5).f2.f2, (rd_T70 y137 x5).f2.f3⟩ : S68)⟩ : S70) : List (S70))).bind fun y138 => ((some (y138.set (x5 : Int).toNat (⟨(rd_T70 y138 x5).f0, (rd_T70 y138 x5).f1, (⟨(rd_T70 y138 x5).f2.f0, wrap64 ((wrap64 ((wrap64 (x1 + 1)) + 1)) + 1), (rd_T70 y138 x5).f2.f2, (rd_T70 y138 x5).f2.f3⟩ : S68)⟩ : S70) : List (S70))).bind fun y139 => ((some (y139.set (x5 : Int).toNat (⟨(rd_T70 y139 x5).f0, (rd_T70 y139 x5).f1, (⟨(rd_T70 y139 x5).f2.f0, (rd_T70 y139 x5).f2.f1, wrap64 ((wrap64 ((wrap64 ((wrap64 (x1 + 1)) + 1)) + 1)) + 1), (rd_T70 y139 x5).f2.f3⟩ : S68)⟩ : S70) : List (S70))).bind fun y140 => (laws_markEntryS.l0 k (y140.set (x5 : Int).toNat (⟨(rd_T70 y140 x5).f0, (rd_T70 y140 x5).f1, (⟨(rd_T70 y140 x5).f2.f0, (rd_T70 y140 x5).f2.f1, (rd_T70 y140 x5).f2.f2, wrap64 ((wrap64 ((wrap64 ((wrap64 ((wrap64 (x1 + 1)) + 1)) + 1)) + 1)) + 1)⟩ : S68)⟩ : S70)) (wrap64 ((wrap64 ((wrap64 ((wrap64 ((wrap64 ((wrap64 (x1 + 1)) + 1)) + 1)) + 1)) + 1)) + 1)) (wrap64 (x5 + 1)))))))) else (none)) else (some (x1, x0))
def laws_markEntryS.f (k : Nat) (l0 : List (S70)) (a1 : Int) : Option (Int × (List (S70))) := laws_markEntryS.l0 k l0 a1 0
theorem laws_markEntryS.mono_l : ∀ k, (∀ y0 y1 y2, LeO (laws_markEntryS.l0 k y0 y1 y2) (laws_markEntryS.l0 (k + 1) y0 y1 y2))
 | 0 => fun _ _ _ r h => by simp [laws_markEntryS.l0] at h
 | k + 1 => by
  have ih0 := laws_markEntryS.mono_l k
  ·intro y0 y1 y2
   unfold laws_markEntryS.l0
   exact mo_
theorem laws_markEntryS.mono : ∀ a0 a1 k, LeO (laws_markEntryS.f k a0 a1) (laws_markEntryS.f (k + 1) a0 a1) := by
 intro a0 a1 k
 have ih0 := laws_markEntryS.mono_l k
 unfold laws_markEntryS.f
 exact mo_
theorem laws_markEntryS.calls (k : Nat) (P0_ : Nat → Prop) (u9000_ : Value) (l0 : List (S70)) (a1 : Int) (r1 : Int) (r2 : List (S70)) (w0 w : World) (hB : Below w0.heap.size w0 w) (ho0 : Kd.R k70 70 w w0.heap.size P0_ u9000_ l0) (h : laws_markEntryS.f k l0 a1 = some (r1, r2)) :
 Calls Tryd.prog 30 #[u9000_, .int .i64 a1] w fun e w' => e = .returned (.int .i64 r1) ∧ Kd.R k70 70 w' w0.heap.size (fun k_ => (P0_ k_ ∨ w.heap.size ≤ k_)) u9000_ r2 ∧ Below w0.heap.size w0 w' ∧ Kept w w' (fun k_ => P0_ k_) := by
 have HO0 := Aside0.mk (show Kd.R k70 70 w w0.heap.size (fun k_ => (P0_ k_ ∨ w.heap.size ≤ k_)) u9000_ l0 from Kd.R_mono ho0 (fun k_ hk => (.inl hk)))
 have HK := Aside0.mk (Kept.refl w (fun k_ => P0_ k_))
 have HW0 := Aside0.mk hB.size
 have HB := Aside0.mk hB
 clear hB
 have H := h
 unfold laws_markEntryS.f at H
 clear h
 have H' := Aside0.mk H
 clear H
 go_enter Tryd.func30, Tryd.ntmps30
 go_wp2
 go_loopg [1, 5] k (fun kq v1 v5 w' => ∃ (x0_1 : List (S70)) (x1_1 : Int) (x5_1 : Int), v1 = .int .i64 x1_1 ∧ v5 = .int .i64 x5_1 ∧ Aside0 (laws_markEntryS.l0 kq x0_1 x1_1 x5_1 = some (r1, r2)) ∧ Aside0 (kq ≤ k) ∧ Aside0 (Kd.R k70 70 w' w0.heap.size (fun k_ => (P0_ k_ ∨ w.heap.size ≤ k_)) u9000_ x0_1) ∧ Aside0 (Kept w w' (fun k_ => P0_ k_)) ∧ Aside0 (Below w0.heap.size w0 w'))
 case atStart => exact ⟨(l0), (a1), (0), (sr_), (sr_), H', ⟨Nat.le_refl _⟩, ⟨ra_ HO0.out⟩, ⟨by repeat (first | (with_reducible first | exact HK.out | apply Kept.alloc | apply Kept.drewN | apply Kept.drew) | exact HK.out)⟩, ⟨bl_⟩⟩
 clear H'
 obtain ⟨x0_1, x1_1, x5_1, rfl, rfl, HA, HK1, HO_0, HK, HB⟩ := hrel
 cases gk with
 | zero => exact absurd HA.out (by simp [laws_markEntryS.l0])
 | succ k1 => ?_
 have H := HA.out
 clear HA
 simp only [laws_markEntryS.l0] at H
 by_cases c3 : x5_1 < (x0_1.length : Int)
 rotate_left
 ·rw [if_neg c3] at H
  have c3b0 := decide_eq_false c3
  clear c3
  simp only [Option.some.injEq, Prod.mk.injEq] at H
  obtain ⟨rfl, rfl⟩ := H
  obtain ⟨Ao24, co24, eo24⟩ := Kd.R_slice HO_0.out
  subst eo24
  go_wp2
  go_ret
  exact ⟨er_, ra_ HO_0.out, bl_, by repeat (first | (with_reducible first | exact HK.out | apply Kept.alloc | apply Kept.drewN | apply Kept.drew) | exact HK.out)⟩
 rw [if_pos c3] at H
 have c3b0 := decide_eq_true c3
 clear c3
 by_cases c4 : 0 ≤ x5_1
 rotate_left
 ·exact nn_ c4 H
 rw [if_pos c4] at H
 have c4b0 := decide_eq_true c4
 clear c4
 obtain ⟨y136, hy136⟩ : ∃ y_ : List (S70), y_ = (x0_1.set (x5_1 : Int).toNat (⟨x1_1, (rd_T70 x0_1 x5_1).f1, (⟨(rd_T70 x0_1 x5_1).f2.f0, (rd_T70 x0_1 x5_1).f2.f1, (rd_T70 x0_1 x5_1).f2.f2, (rd_T70 x0_1 x5_1).f2.f3⟩ : S68)⟩ : S70)) := ⟨_, rfl⟩
 replace H : ((some (y136.set (x5_1 : Int).toNat (⟨(rd_T70 y136 x5_1).f0, wrap64 (x1_1 + 1), (⟨(rd_T70 y136 x5_1).f2.f0, (rd_T70 y136 x5_1).f2.f1, (rd_T70 y136 x5_1).f2.f2, (rd_T70 y136 x5_1).f2.f3⟩ : S68)⟩ : S70) : List (S70))).bind fun y137 => ((some (y137.set (x5_1 : Int).toNat (⟨(rd_T70 y137 x5_1).f0, (rd_T70 y137 x5_1).f1, (⟨wrap64 ((wrap64 (x1_1 + 1)) + 1), (rd_T70 y137 x5_1).f2.f1, (rd_T70 y137 x5_1).f2.f2, (rd_T70 y137 x5_1).f2.f3⟩ : S68)⟩ : S70) : List (S70))).bind fun y138 => ((some (y138.set (x5_1 : Int).toNat (⟨(rd_T70 y138 x5_1).f0, (rd_T70 y138 x5_1).f1, (⟨(rd_T70 y138 x5_1).f2.f0, wrap64 ((wrap64 ((wrap64 (x1_1 + 1)) + 1)) + 1), (rd_T70 y138 x5_1).f2.f2, (rd_T70 y138 x5_1).f2.f3⟩ : S68)⟩ : S70) : List (S70))).bind fun y139 => ((some (y139.set (x5_1 : Int).toNat (⟨(rd_T70 y139 x5_1).f0, (rd_T70 y139 x5_1).f1, (⟨(rd_T70 y139 x5_1).f2.f0, (rd_T70 y139 x5_1).f2.f1, wrap64 ((wrap64 ((wrap64 ((wrap64 (x1_1 + 1)) + 1)) + 1)) + 1), (rd_T70 y139 x5_1).f2.f3⟩ : S68)⟩ : S70) : List (S70))).bind fun y140 => (laws_markEntryS.l0 k1 (y140.set (x5_1 : Int).toNat (⟨(rd_T70 y140 x5_1).f0, (rd_T70 y140 x5_1).f1, (⟨(rd_T70 y140 x5_1).f2.f0, (rd_T70 y140 x5_1).f2.f1, (rd_T70 y140 x5_1).f2.f2, wrap64 ((wrap64 ((wrap64 ((wrap64 ((wrap64 (x1_1 + 1)) + 1)) + 1)) + 1)) + 1)⟩ : S68)⟩ : S70)) (wrap64 ((wrap64 ((wrap64 ((wrap64 ((wrap64 ((wrap64 (x1_1 + 1)) + 1)) + 1)) + 1)) + 1)) + 1)) (wrap64 (x5_1 + 1))))))) = some (r1, r2) := rp_ H hy136
 have Ny136 := Aside0.mk hy136
 clear hy136
 obtain ⟨y137, hy137⟩ : ∃ y_ : List (S70), y_ = (y136.set (x5_1 : Int).toNat (⟨(rd_T70 y136 x5_1).f0, wrap64 (x1_1 + 1), (⟨(rd_T70 y136 x5_1).f2.f0, (rd_T70 y136 x5_1).f2.f1, (rd_T70 y136 x5_1).f2.f2, (rd_T70 y136 x5_1).f2.f3⟩ : S68)⟩ : S70)) := ⟨_, rfl⟩
 replace H : ((some (y137.set (x5_1 : Int).toNat (⟨(rd_T70 y137 x5_1).f0, (rd_T70 y137 x5_1).f1, (⟨wrap64 ((wrap64 (x1_1 + 1)) + 1), (rd_T70 y137 x5_1).f2.f1, (rd_T70 y137 x5_1).f2.f2, (rd_T70 y137 x5_1).f2.f3⟩ : S68)⟩ : S70) : List (S70))).bind fun y138 => ((some (y138.set (x5_1 : Int).toNat (⟨(rd_T70 y138 x5_1).f0, (rd_T70 y138 x5_1).f1, (⟨(rd_T70 y138 x5_1).f2.f0, wrap64 ((wrap64 ((wrap64 (x1_1 + 1)) + 1)) + 1), (rd_T70 y138 x5_1).f2.f2, (rd_T70 y138 x5_1).f2.f3⟩ : S68)⟩ : S70) : List (S70))).bind fun y139 => ((some (y139.set (x5_1 : Int).toNat (⟨(rd_T70 y139 x5_1).f0, (rd_T70 y139 x5_1).f1, (⟨(rd_T70 y139 x5_1).f2.f0, (rd_T70 y139 x5_1).f2.f1, wrap64 ((wrap64 ((wrap64 ((wrap64 (x1_1 + 1)) + 1)) + 1)) + 1), (rd_T70 y139 x5_1).f2.f3⟩ : S68)⟩ : S70) : List (S70))).bind fun y140 => (laws_markEntryS.l0 k1 (y140.set (x5_1 : Int).toNat (⟨(rd_T70 y140 x5_1).f0, (rd_T70 y140 x5_1).f1, (⟨(rd_T70 y140 x5_1).f2.f0, (rd_T70 y140 x5_1).f2.f1, (rd_T70 y140 x5_1).f2.f2, wrap64 ((wrap64 ((wrap64 ((wrap64 ((wrap64 (x1_1 + 1)) + 1)) + 1)) + 1)) + 1)⟩ : S68)⟩ : S70)) (wrap64 ((wrap64 ((wrap64 ((wrap64 ((wrap64 ((wrap64 (x1_1 + 1)) + 1)) + 1)) + 1)) + 1)) + 1)) (wrap64 (x5_1 + 1)))))) = some (r1, r2) := rp_ H hy137
 have Ny137 := Aside0.mk hy137
 clear hy137
 obtain ⟨y138, hy138⟩ : ∃ y_ : List (S70), y_ = (y137.set (x5_1 : Int).toNat (⟨(rd_T70 y137 x5_1).f0, (rd_T70 y137 x5_1).f1, (⟨wrap64 ((wrap64 (x1_1 + 1)) + 1), (rd_T70 y137 x5_1).f2.f1, (rd_T70 y137 x5_1).f2.f2, (rd_T70 y137 x5_1).f2.f3⟩ : S68)⟩ : S70)) := ⟨_, rfl⟩
 replace H : ((some (y138.set (x5_1 : Int).toNat (⟨(rd_T70 y138 x5_1).f0, (rd_T70 y138 x5_1).f1, (⟨(rd_T70 y138 x5_1).f2.f0, wrap64 ((wrap64 ((wrap64 (x1_1 + 1)) + 1)) + 1), (rd_T70 y138 x5_1).f2.f2, (rd_T70 y138 x5_1).f2.f3⟩ : S68)⟩ : S70) : List (S70))).bind fun y139 => ((some (y139.set (x5_1 : Int).toNat (⟨(rd_T70 y139 x5_1).f0, (rd_T70 y139 x5_1).f1, (⟨(rd_T70 y139 x5_1).f2.f0, (rd_T70 y139 x5_1).f2.f1, wrap64 ((wrap64 ((wrap64 ((wrap64 (x1_1 + 1)) + 1)) + 1)) + 1), (rd_T70 y139 x5_1).f2.f3⟩ : S68)⟩ : S70) : List (S70))).bind fun y140 => (laws_markEntryS.l0 k1 (y140.set (x5_1 : Int).toNat (⟨(rd_T70 y140 x5_1).f0, (rd_T70 y140 x5_1).f1, (⟨(rd_T70 y140 x5_1).f2.f0, (rd_T70 y140 x5_1).f2.f1, (rd_T70 y140 x5_1).f2.f2, wrap64 ((wrap64 ((wrap64 ((wrap64 ((wrap64 (x1_1 + 1)) + 1)) + 1)) + 1)) + 1)⟩ : S68)⟩ : S70)) (wrap64 ((wrap64 ((wrap64 ((wrap64 ((wrap64 ((wrap64 (x1_1 + 1)) + 1)) + 1)) + 1)) + 1)) + 1)) (wrap64 (x5_1 + 1))))) = some (r1, r2) := rp_ H hy138
 have Ny138 := Aside0.mk hy138
 clear hy138
 obtain ⟨y139, hy139⟩ : ∃ y_ : List (S70), y_ = (y138.set (x5_1 : Int).toNat (⟨(rd_T70 y138 x5_1).f0, (rd_T70 y138 x5_1).f1, (⟨(rd_T70 y138 x5_1).f2.f0, wrap64 ((wrap64 ((wrap64 (x1_1 + 1)) + 1)) + 1), (rd_T70 y138 x5_1).f2.f2, (rd_T70 y138 x5_1).f2.f3⟩ : S68)⟩ : S70)) := ⟨_, rfl⟩
 replace H : ((some (y139.set (x5_1 : Int).toNat (⟨(rd_T70 y139 x5_1).f0, (rd_T70 y139 x5_1).f1, (⟨(rd_T70 y139 x5_1).f2.f0, (rd_T70 y139 x5_1).f2.f1, wrap64 ((wrap64 ((wrap64 ((wrap64 (x1_1 + 1)) + 1)) + 1)) + 1), (rd_T70 y139 x5_1).f2.f3⟩ : S68)⟩ : S70) : List (S70))).bind fun y140 => (laws_markEntryS.l0 k1 (y140.set (x5_1 : Int).toNat (⟨(rd_T70 y140 x5_1).f0, (rd_T70 y140 x5_1).f1, (⟨(rd_T70 y140 x5_1).f2.f0, (rd_T70 y140 x5_1).f2.f1, (rd_T70 y140 x5_1).f2.f2, wrap64 ((wrap64 ((wrap64 ((wrap64 ((wrap64 (x1_1 + 1)) + 1)) + 1)) + 1)) + 1)⟩ : S68)⟩ : S70)) (wrap64 ((wrap64 ((wrap64 ((wrap64 ((wrap64 ((wrap64 (x1_1 + 1)) + 1)) + 1)) + 1)) + 1)) + 1)) (wrap64 (x5_1 + 1)))) = some (r1, r2) := rp_ H hy139
 have Ny139 := Aside0.mk hy139
 clear hy139
 obtain ⟨y140, hy140⟩ : ∃ y_ : List (S70), y_ = (y139.set (x5_1 : Int).toNat (⟨(rd_T70 y139 x5_1).f0, (rd_T70 y139 x5_1).f1, (⟨(rd_T70 y139 x5_1).f2.f0, (rd_T70 y139 x5_1).f2.f1, wrap64 ((wrap64 ((wrap64 ((wrap64 (x1_1 + 1)) + 1)) + 1)) + 1), (rd_T70 y139 x5_1).f2.f3⟩ : S68)⟩ : S70)) := ⟨_, rfl⟩
 replace H : (laws_markEntryS.l0 k1 (y140.set (x5_1 : Int).toNat (⟨(rd_T70 y140 x5_1).f0, (rd_T70 y140 x5_1).f1, (⟨(rd_T70 y140 x5_1).f2.f0, (rd_T70 y140 x5_1).f2.f1, (rd_T70 y140 x5_1).f2.f2, wrap64 ((wrap64 ((wrap64 ((wrap64 ((wrap64 (x1_1 + 1)) + 1)) + 1)) + 1)) + 1)⟩ : S68)⟩ : S70)) (wrap64 ((wrap64 ((wrap64 ((wrap64 ((wrap64 ((wrap64 (x1_1 + 1)) + 1)) + 1)) + 1)) + 1)) + 1)) (wrap64 (x5_1 + 1))) = some (r1, r2) := rp_ H hy140
 have Ny140 := Aside0.mk hy140
 clear hy140
 obtain ⟨y141, hy141⟩ : ∃ y_ : List (S70), y_ = (y140.set (x5_1 : Int).toNat (⟨(rd_T70 y140 x5_1).f0, (rd_T70 y140 x5_1).f1, (⟨(rd_T70 y140 x5_1).f2.f0, (rd_T70 y140 x5_1).f2.f1, (rd_T70 y140 x5_1).f2.f2, wrap64 ((wrap64 ((wrap64 ((wrap64 ((wrap64 (x1_1 + 1)) + 1)) + 1)) + 1)) + 1)⟩ : S68)⟩ : S70)) := ⟨_, rfl⟩
 replace H : (laws_markEntryS.l0 k1 y141 (wrap64 ((wrap64 ((wrap64 ((wrap64 ((wrap64 ((wrap64 (x1_1 + 1)) + 1)) + 1)) + 1)) + 1)) + 1)) (wrap64 (x5_1 + 1))) = some (r1, r2) := rp_ H hy141
 have Ny141 := Aside0.mk hy141
 clear hy141
 have H' := Aside0.mk H
 clear H
 obtain ⟨Ao11, co11, eo11⟩ := Kd.R_slice HO_0.out
 subst eo11
 have p5 : 0 ≤ (x5_1 : Int) := of_decide_eq_true as_
 have q5 : (x5_1 : Int) < ((x0_1.length : Int) : Int) := of_decide_eq_true as_
 obtain ⟨go5, co5, eo5, gb5, gl5, cl5, HG5⟩ := Kd.R_form HO_0.out (by omega)
 (first | cases eo5 | (injection eo5 with ea_ en_ ec_; (first | subst ea_ | (injection ea_ with ea_; subst ea_)); subst ec_; clear en_))
 have GB5 := Aside0.mk gb5
 have GG5 := Aside0.mk HG5
 clear gb5 gl5 HG5
 have HMgo5 := Aside0.mk (show (P0_ go5 ∨ w.heap.size ≤ go5) from (HO_0.out.1 _ rfl))
 obtain ⟨ce5, hcl5, hM5, hcc5, hfr5⟩ := Kd.R_elem HO_0.out z70 (x5_1 : Int) p5 q5
 obtain rfl := k70_openM hM5
 have hx5_0 : wr.cell? ⟨go5, (x5_1 : Int).toNat * 6, none⟩ = some (.int .i64 ((rd_T70 x0_1 x5_1).f0)) := hcc5 0 _ rfl
 have hx5_1 : wr.cell? ⟨go5, (x5_1 : Int).toNat * 6 + 1, none⟩ = some (.int .i64 ((rd_T70 x0_1 x5_1).f1)) := hcc5 1 _ rfl
 have hx5_2 : wr.cell? ⟨go5, (x5_1 : Int).toNat * 6 + 2, none⟩ = some (.int .i64 ((rd_T70 x0_1 x5_1).f2.f0)) := hcc5 2 _ rfl
 have hx5_3 : wr.cell? ⟨go5, (x5_1 : Int).toNat * 6 + 3, none⟩ = some (.int .i64 ((rd_T70 x0_1 x5_1).f2.f1)) := hcc5 3 _ rfl
 have hx5_4 : wr.cell? ⟨go5, (x5_1 : Int).toNat * 6 + 4, none⟩ = some (.int .i64 ((rd_T70 x0_1 x5_1).f2.f2)) := hcc5 4 _ rfl
 have hx5_5 : wr.cell? ⟨go5, (x5_1 : Int).toNat * 6 + 5, none⟩ = some (.int .i64 ((rd_T70 x0_1 x5_1).f2.f3)) := hcc5 5 _ rfl
 have hf5_0 : wr.frozen? ⟨go5, (x5_1 : Int).toNat * 6, none⟩ = false := hfr5 0
 have hf5_1 : wr.frozen? ⟨go5, (x5_1 : Int).toNat * 6 + 1, none⟩ = false := hfr5 1
 have hf5_2 : wr.frozen? ⟨go5, (x5_1 : Int).toNat * 6 + 2, none⟩ = false := hfr5 2
 have hf5_3 : wr.frozen? ⟨go5, (x5_1 : Int).toNat * 6 + 3, none⟩ = false := hfr5 3
 have hf5_4 : wr.frozen? ⟨go5, (x5_1 : Int).toNat * 6 + 4, none⟩ = false := hfr5 4
 have hf5_5 : wr.frozen? ⟨go5, (x5_1 : Int).toNat * 6 + 5, none⟩ = false := hfr5 5
 clear hcl5 hcc5 hfr5 hM5
 replace p5 := eq_true p5
 replace q5 := eq_true q5
 have HX12 := Aside0.mk (show Kd.R k70 70 wr w0.heap.size (fun k_ => (P0_ k_ ∨ w.heap.size ≤ k_)) (.slice (some ⟨go5, 0, none⟩) x0_1.length co11) x0_1 from (ra_ HO_0.out))
 obtain ⟨ce12, hcl12, hM12, hcc12, hfr12⟩ := Kd.R_elem HX12.out z70 (x5_1 : Int) (of_decide_eq_true as_) (by have h_ : (x5_1 : Int) < ((x0_1.length : Int) : Int) := of_decide_eq_true as_; first | exact h_ | (have e_ := (Kd.R_reads' HO_0.out).1; omega) | simpa using h_)
 obtain rfl := k70_openM hM12
 have HP12 := Kd.R_seg HX12.out (x5_1 : Int) (of_decide_eq_true as_) (by have h_ : (x5_1 : Int) < ((x0_1.length : Int) : Int) := of_decide_eq_true as_; first | exact h_ | (have e_ := (Kd.R_reads' HO_0.out).1; omega) | simpa using h_) (seg := [.int .i64 x1_1]) (j := 0) hcl12 hcc12 (show 1 ≤ 6 from by decide) (x' := (⟨x1_1, (rd_T70 x0_1 x5_1).f1, (⟨(rd_T70 x0_1 x5_1).f2.f0, (rd_T70 x0_1 x5_1).f2.f1, (rd_T70 x0_1 x5_1).f2.f2, (rd_T70 x0_1 x5_1).f2.f3⟩ : S68)⟩ : S70)) (k70_mkM _ _ _ (⟨x1_1, (rd_T70 x0_1 x5_1).f1, (⟨(rd_T70 x0_1 x5_1).f2.f0, (rd_T70 x0_1 x5_1).f2.f1, (rd_T70 x0_1 x5_1).f2.f2, (rd_T70 x0_1 x5_1).f2.f3⟩ : S68)⟩ : S70) ) (fun _ hk => hk)
 have hx12_0 := hcc12 0 _ rfl
 (try simp only [show (k70).sz = 6 from rfl, Nat.mul_one, Nat.add_zero] at hx12_0)
 have hf12_0 := hfr12 0
 (try simp only [show (k70).sz = 6 from rfl, Nat.mul_one, Nat.add_zero] at hf12_0)
 clear hcl12 hcc12 hfr12 hM12
 go_wp2_with (first | ((with_reducible refine gate_store (t := 3) (p := 16) rfl ?_); refine store_event (t := 3) (p := 16) (v := ?vo_w13) (w1 := (wr.setCell ⟨go5, (x5_1 : Int).toNat * 6, none⟩ (.int .i64 x1_1))) ?hg ?ho ?hn ?hr ?_; (case ho => rfl); (case hg => rfl); (case hn => rfl); (case hr => first | (go_simp; done) | (go_simp; rfl)); intro w13 hw; have hg : wr.grownBy w13 (some go5) := (by rw [hw]; exact HP12.2); have hp_ : Kd.R k70 70 w13 w0.heap.size (fun k_ => (P0_ k_ ∨ w.heap.size ≤ k_)) (.slice (some ⟨go5, 0, none⟩) x0_1.length co11) y136 := (by rw [hw, Ny136.out]; exact HP12.1); clear HP12; replace HB := Aside0.mk ((by rw [hw]; exact below_set (HB.out) GB5.out : Below w0.heap.size w0 w13)); replace HK := Aside0.mk (Kept.of_grown (S := (fun k_ => P0_ k_)) hg (by repeat (first | (with_reducible first | exact HK.out | apply Kept.alloc | apply Kept.drewN | apply Kept.drew) | exact HK.out)) (fun k_ e_ => (HO_0.out.1 k_ e_))); replace HO_0 := Aside0.mk (hp_); clear hg hw hp_; have p6 : 0 ≤ (x5_1 : Int) := of_decide_eq_true as_; have q6 : (x5_1 : Int) < ((x0_1.length : Int) : Int) := of_decide_eq_true as_; obtain ⟨ce6, hcl6, hM6, hcc6, hfr6⟩ := Kd.R_elem HO_0.out z70 (x5_1 : Int) p6 q6; obtain rfl := k70_openM hM6; have hx6_0 : w13.cell? ⟨go5, (x5_1 : Int).toNat * 6, none⟩ = some (.int .i64 ((rd_T70 y136 x5_1).f0)) := hcc6 0 _ rfl; have hx6_1 : w13.cell? ⟨go5, (x5_1 : Int).toNat * 6 + 1, none⟩ = some (.int .i64 ((rd_T70 y136 x5_1).f1)) := hcc6 1 _ rfl; have hx6_2 : w13.cell? ⟨go5, (x5_1 : Int).toNat * 6 + 2, none⟩ = some (.int .i64 ((rd_T70 y136 x5_1).f2.f0)) := hcc6 2 _ rfl; have hx6_3 : w13.cell? ⟨go5, (x5_1 : Int).toNat * 6 + 3, none⟩ = some (.int .i64 ((rd_T70 y136 x5_1).f2.f1)) := hcc6 3 _ rfl; have hx6_4 : w13.cell? ⟨go5, (x5_1 : Int).toNat * 6 + 4, none⟩ = some (.int .i64 ((rd_T70 y136 x5_1).f2.f2)) := hcc6 4 _ rfl; have hx6_5 : w13.cell? ⟨go5, (x5_1 : Int).toNat * 6 + 5, none⟩ = some (.int .i64 ((rd_T70 y136 x5_1).f2.f3)) := hcc6 5 _ rfl; have hf6_0 : w13.frozen? ⟨go5, (x5_1 : Int).toNat * 6, none⟩ = false := hfr6 0; have hf6_1 : w13.frozen? ⟨go5, (x5_1 : Int).toNat * 6 + 1, none⟩ = false := hfr6 1; have hf6_2 : w13.frozen? ⟨go5, (x5_1 : Int).toNat * 6 + 2, none⟩ = false := hfr6 2; have hf6_3 : w13.frozen? ⟨go5, (x5_1 : Int).toNat * 6 + 3, none⟩ = false := hfr6 3; have hf6_4 : w13.frozen? ⟨go5, (x5_1 : Int).toNat * 6 + 4, none⟩ = false := hfr6 4; have hf6_5 : w13.frozen? ⟨go5, (x5_1 : Int).toNat * 6 + 5, none⟩ = false := hfr6 5; clear hcl6 hcc6 hfr6 hM6; replace p6 := eq_true p6; replace q6 := eq_true q6; have HX14 := Aside0.mk (show Kd.R k70 70 w13 w0.heap.size (fun k_ => (P0_ k_ ∨ w.heap.size ≤ k_)) (.slice (some ⟨go5, 0, none⟩) x0_1.length co11) y136 from (ra_ HO_0.out)); obtain ⟨ce14, hcl14, hM14, hcc14, hfr14⟩ := Kd.R_elem HX14.out z70 (x5_1 : Int) (of_decide_eq_true as_) (by have h_ : (x5_1 : Int) < ((x0_1.length : Int) : Int) := of_decide_eq_true as_; first | exact h_ | (have e_ := (Kd.R_reads' HO_0.out).1; omega) | simpa using h_); obtain rfl := k70_openM hM14; have HP14 := Kd.R_seg HX14.out (x5_1 : Int) (of_decide_eq_true as_) (by have h_ : (x5_1 : Int) < ((x0_1.length : Int) : Int) := of_decide_eq_true as_; first | exact h_ | (have e_ := (Kd.R_reads' HO_0.out).1; omega) | simpa using h_) (seg := [.int .i64 (wrap64 (x1_1 + 1))]) (j := 1) hcl14 hcc14 (show 2 ≤ 6 from by decide) (x' := (⟨(rd_T70 y136 x5_1).f0, wrap64 (x1_1 + 1), (⟨(rd_T70 y136 x5_1).f2.f0, (rd_T70 y136 x5_1).f2.f1, (rd_T70 y136 x5_1).f2.f2, (rd_T70 y136 x5_1).f2.f3⟩ : S68)⟩ : S70)) (k70_mkM _ _ _ (⟨(rd_T70 y136 x5_1).f0, wrap64 (x1_1 + 1), (⟨(rd_T70 y136 x5_1).f2.f0, (rd_T70 y136 x5_1).f2.f1, (rd_T70 y136 x5_1).f2.f2, (rd_T70 y136 x5_1).f2.f3⟩ : S68)⟩ : S70) ) (fun _ hk => hk); have hx14_1 := hcc14 1 _ rfl; (try simp only [show (k70).sz = 6 from rfl, Nat.mul_one, Nat.add_zero] at hx14_1); have hf14_1 := hfr14 1; (try simp only [show (k70).sz = 6 from rfl, Nat.mul_one, Nat.add_zero] at hf14_1); clear hcl14 hcc14 hfr14 hM14) | ((with_reducible refine gate_store (t := 3) (p := 23) rfl ?_); refine store_event (t := 3) (p := 23) (v := ?vo_w15) (w1 := (w13.setCell ⟨go5, (x5_1 : Int).toNat * 6 + 1, none⟩ (.int .i64 (wrap64 (x1_1 + 1))))) ?hg ?ho ?hn ?hr ?_; (case ho => rfl); (case hg => rfl); (case hn => rfl); (case hr => first | (go_simp; done) | (go_simp; rfl)); intro w15 hw; have hg : w13.grownBy w15 (some go5) := (by rw [hw]; exact HP14.2); have hp_ : Kd.R k70 70 w15 w0.heap.size (fun k_ => (P0_ k_ ∨ w.heap.size ≤ k_)) (.slice (some ⟨go5, 0, none⟩) x0_1.length co11) y137 := (by rw [hw, Ny137.out]; exact HP14.1); clear HP14; replace HB := Aside0.mk ((by rw [hw]; exact below_set (HB.out) GB5.out : Below w0.heap.size w0 w15)); replace HK := Aside0.mk (Kept.of_grown (S := (fun k_ => P0_ k_)) hg (by repeat (first | (with_reducible first | exact HK.out | apply Kept.alloc | apply Kept.drewN | apply Kept.drew) | exact HK.out)) (fun k_ e_ => (HO_0.out.1 k_ e_))); replace HO_0 := Aside0.mk (hp_); clear hg hw hp_; have p7 : 0 ≤ (x5_1 : Int) := of_decide_eq_true as_; have q7 : (x5_1 : Int) < ((x0_1.length : Int) : Int) := of_decide_eq_true as_; obtain ⟨ce7, hcl7, hM7, hcc7, hfr7⟩ := Kd.R_elem HO_0.out z70 (x5_1 : Int) p7 q7; obtain rfl := k70_openM hM7; have hx7_0 : w15.cell? ⟨go5, (x5_1 : Int).toNat * 6, none⟩ = some (.int .i64 ((rd_T70 y137 x5_1).f0)) := hcc7 0 _ rfl; have hx7_1 : w15.cell? ⟨go5, (x5_1 : Int).toNat * 6 + 1, none⟩ = some (.int .i64 ((rd_T70 y137 x5_1).f1)) := hcc7 1 _ rfl; have hx7_2 : w15.cell? ⟨go5, (x5_1 : Int).toNat * 6 + 2, none⟩ = some (.int .i64 ((rd_T70 y137 x5_1).f2.f0)) := hcc7 2 _ rfl; have hx7_3 : w15.cell? ⟨go5, (x5_1 : Int).toNat * 6 + 3, none⟩ = some (.int .i64 ((rd_T70 y137 x5_1).f2.f1)) := hcc7 3 _ rfl; have hx7_4 : w15.cell? ⟨go5, (x5_1 : Int).toNat * 6 + 4, none⟩ = some (.int .i64 ((rd_T70 y137 x5_1).f2.f2)) := hcc7 4 _ rfl; have hx7_5 : w15.cell? ⟨go5, (x5_1 : Int).toNat * 6 + 5, none⟩ = some (.int .i64 ((rd_T70 y137 x5_1).f2.f3)) := hcc7 5 _ rfl; have hf7_0 : w15.frozen? ⟨go5, (x5_1 : Int).toNat * 6, none⟩ = false := hfr7 0; have hf7_1 : w15.frozen? ⟨go5, (x5_1 : Int).toNat * 6 + 1, none⟩ = false := hfr7 1; have hf7_2 : w15.frozen? ⟨go5, (x5_1 : Int).toNat * 6 + 2, none⟩ = false := hfr7 2; have hf7_3 : w15.frozen? ⟨go5, (x5_1 : Int).toNat * 6 + 3, none⟩ = false := hfr7 3; have hf7_4 : w15.frozen? ⟨go5, (x5_1 : Int).toNat * 6 + 4, none⟩ = false := hfr7 4; have hf7_5 : w15.frozen? ⟨go5, (x5_1 : Int).toNat * 6 + 5, none⟩ = false := hfr7 5; clear hcl7 hcc7 hfr7 hM7; replace p7 := eq_true p7; replace q7 := eq_true q7; have HX16 := Aside0.mk (show Kd.R k70 70 w15 w0.heap.size (fun k_ => (P0_ k_ ∨ w.heap.size ≤ k_)) (.slice (some ⟨go5, 0, none⟩) x0_1.length co11) y137 from (ra_ HO_0.out)); obtain ⟨ce16, hcl16, hM16, hcc16, hfr16⟩ := Kd.R_elem HX16.out z70 (x5_1 : Int) (of_decide_eq_true as_) (by have h_ : (x5_1 : Int) < ((x0_1.length : Int) : Int) := of_decide_eq_true as_; first | exact h_ | (have e_ := (Kd.R_reads' HO_0.out).1; omega) | simpa using h_); obtain rfl := k70_openM hM16; have HP16 := Kd.R_seg HX16.out (x5_1 : Int) (of_decide_eq_true as_) (by have h_ : (x5_1 : Int) < ((x0_1.length : Int) : Int) := of_decide_eq_true as_; first | exact h_ | (have e_ := (Kd.R_reads' HO_0.out).1; omega) | simpa using h_) (seg := [.int .i64 (wrap64 ((wrap64 (x1_1 + 1)) + 1))]) (j := 2) hcl16 hcc16 (show 3 ≤ 6 from by decide) (x' := (⟨(rd_T70 y137 x5_1).f0, (rd_T70 y137 x5_1).f1, (⟨wrap64 ((wrap64 (x1_1 + 1)) + 1), (rd_T70 y137 x5_1).f2.f1, (rd_T70 y137 x5_1).f2.f2, (rd_T70 y137 x5_1).f2.f3⟩ : S68)⟩ : S70)) (k70_mkM _ _ _ (⟨(rd_T70 y137 x5_1).f0, (rd_T70 y137 x5_1).f1, (⟨wrap64 ((wrap64 (x1_1 + 1)) + 1), (rd_T70 y137 x5_1).f2.f1, (rd_T70 y137 x5_1).f2.f2, (rd_T70 y137 x5_1).f2.f3⟩ : S68)⟩ : S70) ) (fun _ hk => hk); have hx16_2 := hcc16 2 _ rfl; (try simp only [show (k70).sz = 6 from rfl, Nat.mul_one, Nat.add_zero] at hx16_2); have hf16_2 := hfr16 2; (try simp only [show (k70).sz = 6 from rfl, Nat.mul_one, Nat.add_zero] at hf16_2); clear hcl16 hcc16 hfr16 hM16) | ((with_reducible refine gate_store (t := 3) (p := 31) rfl ?_); refine store_event (t := 3) (p := 31) (v := ?vo_w17) (w1 := (w15.setCell ⟨go5, (x5_1 : Int).toNat * 6 + 2, none⟩ (.int .i64 (wrap64 ((wrap64 (x1_1 + 1)) + 1))))) ?hg ?ho ?hn ?hr ?_; (case ho => rfl); (case hg => rfl); (case hn => rfl); (case hr => first | (go_simp; done) | (go_simp; rfl)); intro w17 hw; have hg : w15.grownBy w17 (some go5) := (by rw [hw]; exact HP16.2); have hp_ : Kd.R k70 70 w17 w0.heap.size (fun k_ => (P0_ k_ ∨ w.heap.size ≤ k_)) (.slice (some ⟨go5, 0, none⟩) x0_1.length co11) y138 := (by rw [hw, Ny138.out]; exact HP16.1); clear HP16; replace HB := Aside0.mk ((by rw [hw]; exact below_set (HB.out) GB5.out : Below w0.heap.size w0 w17)); replace HK := Aside0.mk (Kept.of_grown (S := (fun k_ => P0_ k_)) hg (by repeat (first | (with_reducible first | exact HK.out | apply Kept.alloc | apply Kept.drewN | apply Kept.drew) | exact HK.out)) (fun k_ e_ => (HO_0.out.1 k_ e_))); replace HO_0 := Aside0.mk (hp_); clear hg hw hp_; have p8 : 0 ≤ (x5_1 : Int) := of_decide_eq_true as_; have q8 : (x5_1 : Int) < ((x0_1.length : Int) : Int) := of_decide_eq_true as_; obtain ⟨ce8, hcl8, hM8, hcc8, hfr8⟩ := Kd.R_elem HO_0.out z70 (x5_1 : Int) p8 q8; obtain rfl := k70_openM hM8; have hx8_0 : w17.cell? ⟨go5, (x5_1 : Int).toNat * 6, none⟩ = some (.int .i64 ((rd_T70 y138 x5_1).f0)) := hcc8 0 _ rfl; have hx8_1 : w17.cell? ⟨go5, (x5_1 : Int).toNat * 6 + 1, none⟩ = some (.int .i64 ((rd_T70 y138 x5_1).f1)) := hcc8 1 _ rfl; have hx8_2 : w17.cell? ⟨go5, (x5_1 : Int).toNat * 6 + 2, none⟩ = some (.int .i64 ((rd_T70 y138 x5_1).f2.f0)) := hcc8 2 _ rfl; have hx8_3 : w17.cell? ⟨go5, (x5_1 : Int).toNat * 6 + 3, none⟩ = some (.int .i64 ((rd_T70 y138 x5_1).f2.f1)) := hcc8 3 _ rfl; have hx8_4 : w17.cell? ⟨go5, (x5_1 : Int).toNat * 6 + 4, none⟩ = some (.int .i64 ((rd_T70 y138 x5_1).f2.f2)) := hcc8 4 _ rfl; have hx8_5 : w17.cell? ⟨go5, (x5_1 : Int).toNat * 6 + 5, none⟩ = some (.int .i64 ((rd_T70 y138 x5_1).f2.f3)) := hcc8 5 _ rfl; have hf8_0 : w17.frozen? ⟨go5, (x5_1 : Int).toNat * 6, none⟩ = false := hfr8 0; have hf8_1 : w17.frozen? ⟨go5, (x5_1 : Int).toNat * 6 + 1, none⟩ = false := hfr8 1; have hf8_2 : w17.frozen? ⟨go5, (x5_1 : Int).toNat * 6 + 2, none⟩ = false := hfr8 2; have hf8_3 : w17.frozen? ⟨go5, (x5_1 : Int).toNat * 6 + 3, none⟩ = false := hfr8 3; have hf8_4 : w17.frozen? ⟨go5, (x5_1 : Int).toNat * 6 + 4, none⟩ = false := hfr8 4; have hf8_5 : w17.frozen? ⟨go5, (x5_1 : Int).toNat * 6 + 5, none⟩ = false := hfr8 5; clear hcl8 hcc8 hfr8 hM8; replace p8 := eq_true p8; replace q8 := eq_true q8; have HX18 := Aside0.mk (show Kd.R k70 70 w17 w0.heap.size (fun k_ => (P0_ k_ ∨ w.heap.size ≤ k_)) (.slice (some ⟨go5, 0, none⟩) x0_1.length co11) y138 from (ra_ HO_0.out)); obtain ⟨ce18, hcl18, hM18, hcc18, hfr18⟩ := Kd.R_elem HX18.out z70 (x5_1 : Int) (of_decide_eq_true as_) (by have h_ : (x5_1 : Int) < ((x0_1.length : Int) : Int) := of_decide_eq_true as_; first | exact h_ | (have e_ := (Kd.R_reads' HO_0.out).1; omega) | simpa using h_); obtain rfl := k70_openM hM18; have HP18 := Kd.R_seg HX18.out (x5_1 : Int) (of_decide_eq_true as_) (by have h_ : (x5_1 : Int) < ((x0_1.length : Int) : Int) := of_decide_eq_true as_; first | exact h_ | (have e_ := (Kd.R_reads' HO_0.out).1; omega) | simpa using h_) (seg := [.int .i64 (wrap64 ((wrap64 ((wrap64 (x1_1 + 1)) + 1)) + 1))]) (j := 3) hcl18 hcc18 (show 4 ≤ 6 from by decide) (x' := (⟨(rd_T70 y138 x5_1).f0, (rd_T70 y138 x5_1).f1, (⟨(rd_T70 y138 x5_1).f2.f0, wrap64 ((wrap64 ((wrap64 (x1_1 + 1)) + 1)) + 1), (rd_T70 y138 x5_1).f2.f2, (rd_T70 y138 x5_1).f2.f3⟩ : S68)⟩ : S70)) (k70_mkM _ _ _ (⟨(rd_T70 y138 x5_1).f0, (rd_T70 y138 x5_1).f1, (⟨(rd_T70 y138 x5_1).f2.f0, wrap64 ((wrap64 ((wrap64 (x1_1 + 1)) + 1)) + 1), (rd_T70 y138 x5_1).f2.f2, (rd_T70 y138 x5_1).f2.f3⟩ : S68)⟩ : S70) ) (fun _ hk => hk); have hx18_3 := hcc18 3 _ rfl; (try simp only [show (k70).sz = 6 from rfl, Nat.mul_one, Nat.add_zero] at hx18_3); have hf18_3 := hfr18 3; (try simp only [show (k70).sz = 6 from rfl, Nat.mul_one, Nat.add_zero] at hf18_3); clear hcl18 hcc18 hfr18 hM18) | ((with_reducible refine gate_store (t := 3) (p := 39) rfl ?_); refine store_event (t := 3) (p := 39) (v := ?vo_w19) (w1 := (w17.setCell ⟨go5, (x5_1 : Int).toNat * 6 + 3, none⟩ (.int .i64 (wrap64 ((wrap64 ((wrap64 (x1_1 + 1)) + 1)) + 1))))) ?hg ?ho ?hn ?hr ?_; (case ho => rfl); (case hg => rfl); (case hn => rfl); (case hr => first | (go_simp; done) | (go_simp; rfl)); intro w19 hw; have hg : w17.grownBy w19 (some go5) := (by rw [hw]; exact HP18.2); have hp_ : Kd.R k70 70 w19 w0.heap.size (fun k_ => (P0_ k_ ∨ w.heap.size ≤ k_)) (.slice (some ⟨go5, 0, none⟩) x0_1.length co11) y139 := (by rw [hw, Ny139.out]; exact HP18.1); clear HP18; replace HB := Aside0.mk ((by rw [hw]; exact below_set (HB.out) GB5.out : Below w0.heap.size w0 w19)); replace HK := Aside0.mk (Kept.of_grown (S := (fun k_ => P0_ k_)) hg (by repeat (first | (with_reducible first | exact HK.out | apply Kept.alloc | apply Kept.drewN | apply Kept.drew) | exact HK.out)) (fun k_ e_ => (HO_0.out.1 k_ e_))); replace HO_0 := Aside0.mk (hp_); clear hg hw hp_; have p9 : 0 ≤ (x5_1 : Int) := of_decide_eq_true as_; have q9 : (x5_1 : Int) < ((x0_1.length : Int) : Int) := of_decide_eq_true as_; obtain ⟨ce9, hcl9, hM9, hcc9, hfr9⟩ := Kd.R_elem HO_0.out z70 (x5_1 : Int) p9 q9; obtain rfl := k70_openM hM9; have hx9_0 : w19.cell? ⟨go5, (x5_1 : Int).toNat * 6, none⟩ = some (.int .i64 ((rd_T70 y139 x5_1).f0)) := hcc9 0 _ rfl; have hx9_1 : w19.cell? ⟨go5, (x5_1 : Int).toNat * 6 + 1, none⟩ = some (.int .i64 ((rd_T70 y139 x5_1).f1)) := hcc9 1 _ rfl; have hx9_2 : w19.cell? ⟨go5, (x5_1 : Int).toNat * 6 + 2, none⟩ = some (.int .i64 ((rd_T70 y139 x5_1).f2.f0)) := hcc9 2 _ rfl; have hx9_3 : w19.cell? ⟨go5, (x5_1 : Int).toNat * 6 + 3, none⟩ = some (.int .i64 ((rd_T70 y139 x5_1).f2.f1)) := hcc9 3 _ rfl; have hx9_4 : w19.cell? ⟨go5, (x5_1 : Int).toNat * 6 + 4, none⟩ = some (.int .i64 ((rd_T70 y139 x5_1).f2.f2)) := hcc9 4 _ rfl; have hx9_5 : w19.cell? ⟨go5, (x5_1 : Int).toNat * 6 + 5, none⟩ = some (.int .i64 ((rd_T70 y139 x5_1).f2.f3)) := hcc9 5 _ rfl; have hf9_0 : w19.frozen? ⟨go5, (x5_1 : Int).toNat * 6, none⟩ = false := hfr9 0; have hf9_1 : w19.frozen? ⟨go5, (x5_1 : Int).toNat * 6 + 1, none⟩ = false := hfr9 1; have hf9_2 : w19.frozen? ⟨go5, (x5_1 : Int).toNat * 6 + 2, none⟩ = false := hfr9 2; have hf9_3 : w19.frozen? ⟨go5, (x5_1 : Int).toNat * 6 + 3, none⟩ = false := hfr9 3; have hf9_4 : w19.frozen? ⟨go5, (x5_1 : Int).toNat * 6 + 4, none⟩ = false := hfr9 4; have hf9_5 : w19.frozen? ⟨go5, (x5_1 : Int).toNat * 6 + 5, none⟩ = false := hfr9 5; clear hcl9 hcc9 hfr9 hM9; replace p9 := eq_true p9; replace q9 := eq_true q9; have HX20 := Aside0.mk (show Kd.R k70 70 w19 w0.heap.size (fun k_ => (P0_ k_ ∨ w.heap.size ≤ k_)) (.slice (some ⟨go5, 0, none⟩) x0_1.length co11) y139 from (ra_ HO_0.out)); obtain ⟨ce20, hcl20, hM20, hcc20, hfr20⟩ := Kd.R_elem HX20.out z70 (x5_1 : Int) (of_decide_eq_true as_) (by have h_ : (x5_1 : Int) < ((x0_1.length : Int) : Int) := of_decide_eq_true as_; first | exact h_ | (have e_ := (Kd.R_reads' HO_0.out).1; omega) | simpa using h_); obtain rfl := k70_openM hM20; have HP20 := Kd.R_seg HX20.out (x5_1 : Int) (of_decide_eq_true as_) (by have h_ : (x5_1 : Int) < ((x0_1.length : Int) : Int) := of_decide_eq_true as_; first | exact h_ | (have e_ := (Kd.R_reads' HO_0.out).1; omega) | simpa using h_) (seg := [.int .i64 (wrap64 ((wrap64 ((wrap64 ((wrap64 (x1_1 + 1)) + 1)) + 1)) + 1))]) (j := 4) hcl20 hcc20 (show 5 ≤ 6 from by decide) (x' := (⟨(rd_T70 y139 x5_1).f0, (rd_T70 y139 x5_1).f1, (⟨(rd_T70 y139 x5_1).f2.f0, (rd_T70 y139 x5_1).f2.f1, wrap64 ((wrap64 ((wrap64 ((wrap64 (x1_1 + 1)) + 1)) + 1)) + 1), (rd_T70 y139 x5_1).f2.f3⟩ : S68)⟩ : S70)) (k70_mkM _ _ _ (⟨(rd_T70 y139 x5_1).f0, (rd_T70 y139 x5_1).f1, (⟨(rd_T70 y139 x5_1).f2.f0, (rd_T70 y139 x5_1).f2.f1, wrap64 ((wrap64 ((wrap64 ((wrap64 (x1_1 + 1)) + 1)) + 1)) + 1), (rd_T70 y139 x5_1).f2.f3⟩ : S68)⟩ : S70) ) (fun _ hk => hk); have hx20_4 := hcc20 4 _ rfl; (try simp only [show (k70).sz = 6 from rfl, Nat.mul_one, Nat.add_zero] at hx20_4); have hf20_4 := hfr20 4; (try simp only [show (k70).sz = 6 from rfl, Nat.mul_one, Nat.add_zero] at hf20_4); clear hcl20 hcc20 hfr20 hM20) | ((with_reducible refine gate_store (t := 3) (p := 47) rfl ?_); refine store_event (t := 3) (p := 47) (v := ?vo_w21) (w1 := (w19.setCell ⟨go5, (x5_1 : Int).toNat * 6 + 4, none⟩ (.int .i64 (wrap64 ((wrap64 ((wrap64 ((wrap64 (x1_1 + 1)) + 1)) + 1)) + 1))))) ?hg ?ho ?hn ?hr ?_; (case ho => rfl); (case hg => rfl); (case hn => rfl); (case hr => first | (go_simp; done) | (go_simp; rfl)); intro w21 hw; have hg : w19.grownBy w21 (some go5) := (by rw [hw]; exact HP20.2); have hp_ : Kd.R k70 70 w21 w0.heap.size (fun k_ => (P0_ k_ ∨ w.heap.size ≤ k_)) (.slice (some ⟨go5, 0, none⟩) x0_1.length co11) y140 := (by rw [hw, Ny140.out]; exact HP20.1); clear HP20; replace HB := Aside0.mk ((by rw [hw]; exact below_set (HB.out) GB5.out : Below w0.heap.size w0 w21)); replace HK := Aside0.mk (Kept.of_grown (S := (fun k_ => P0_ k_)) hg (by repeat (first | (with_reducible first | exact HK.out | apply Kept.alloc | apply Kept.drewN | apply Kept.drew) | exact HK.out)) (fun k_ e_ => (HO_0.out.1 k_ e_))); replace HO_0 := Aside0.mk (hp_); clear hg hw hp_; have p10 : 0 ≤ (x5_1 : Int) := of_decide_eq_true as_; have q10 : (x5_1 : Int) < ((x0_1.length : Int) : Int) := of_decide_eq_true as_; obtain ⟨ce10, hcl10, hM10, hcc10, hfr10⟩ := Kd.R_elem HO_0.out z70 (x5_1 : Int) p10 q10; obtain rfl := k70_openM hM10; have hx10_0 : w21.cell? ⟨go5, (x5_1 : Int).toNat * 6, none⟩ = some (.int .i64 ((rd_T70 y140 x5_1).f0)) := hcc10 0 _ rfl; have hx10_1 : w21.cell? ⟨go5, (x5_1 : Int).toNat * 6 + 1, none⟩ = some (.int .i64 ((rd_T70 y140 x5_1).f1)) := hcc10 1 _ rfl; have hx10_2 : w21.cell? ⟨go5, (x5_1 : Int).toNat * 6 + 2, none⟩ = some (.int .i64 ((rd_T70 y140 x5_1).f2.f0)) := hcc10 2 _ rfl; have hx10_3 : w21.cell? ⟨go5, (x5_1 : Int).toNat * 6 + 3, none⟩ = some (.int .i64 ((rd_T70 y140 x5_1).f2.f1)) := hcc10 3 _ rfl; have hx10_4 : w21.cell? ⟨go5, (x5_1 : Int).toNat * 6 + 4, none⟩ = some (.int .i64 ((rd_T70 y140 x5_1).f2.f2)) := hcc10 4 _ rfl; have hx10_5 : w21.cell? ⟨go5, (x5_1 : Int).toNat * 6 + 5, none⟩ = some (.int .i64 ((rd_T70 y140 x5_1).f2.f3)) := hcc10 5 _ rfl; have hf10_0 : w21.frozen? ⟨go5, (x5_1 : Int).toNat * 6, none⟩ = false := hfr10 0; have hf10_1 : w21.frozen? ⟨go5, (x5_1 : Int).toNat * 6 + 1, none⟩ = false := hfr10 1; have hf10_2 : w21.frozen? ⟨go5, (x5_1 : Int).toNat * 6 + 2, none⟩ = false := hfr10 2; have hf10_3 : w21.frozen? ⟨go5, (x5_1 : Int).toNat * 6 + 3, none⟩ = false := hfr10 3; have hf10_4 : w21.frozen? ⟨go5, (x5_1 : Int).toNat * 6 + 4, none⟩ = false := hfr10 4; have hf10_5 : w21.frozen? ⟨go5, (x5_1 : Int).toNat * 6 + 5, none⟩ = false := hfr10 5; clear hcl10 hcc10 hfr10 hM10; replace p10 := eq_true p10; replace q10 := eq_true q10; have HX22 := Aside0.mk (show Kd.R k70 70 w21 w0.heap.size (fun k_ => (P0_ k_ ∨ w.heap.size ≤ k_)) (.slice (some ⟨go5, 0, none⟩) x0_1.length co11) y140 from (ra_ HO_0.out)); obtain ⟨ce22, hcl22, hM22, hcc22, hfr22⟩ := Kd.R_elem HX22.out z70 (x5_1 : Int) (of_decide_eq_true as_) (by have h_ : (x5_1 : Int) < ((x0_1.length : Int) : Int) := of_decide_eq_true as_; first | exact h_ | (have e_ := (Kd.R_reads' HO_0.out).1; omega) | simpa using h_); obtain rfl := k70_openM hM22; have HP22 := Kd.R_seg HX22.out (x5_1 : Int) (of_decide_eq_true as_) (by have h_ : (x5_1 : Int) < ((x0_1.length : Int) : Int) := of_decide_eq_true as_; first | exact h_ | (have e_ := (Kd.R_reads' HO_0.out).1; omega) | simpa using h_) (seg := [.int .i64 (wrap64 ((wrap64 ((wrap64 ((wrap64 ((wrap64 (x1_1 + 1)) + 1)) + 1)) + 1)) + 1))]) (j := 5) hcl22 hcc22 (show 6 ≤ 6 from by decide) (x' := (⟨(rd_T70 y140 x5_1).f0, (rd_T70 y140 x5_1).f1, (⟨(rd_T70 y140 x5_1).f2.f0, (rd_T70 y140 x5_1).f2.f1, (rd_T70 y140 x5_1).f2.f2, wrap64 ((wrap64 ((wrap64 ((wrap64 ((wrap64 (x1_1 + 1)) + 1)) + 1)) + 1)) + 1)⟩ : S68)⟩ : S70)) (k70_mkM _ _ _ (⟨(rd_T70 y140 x5_1).f0, (rd_T70 y140 x5_1).f1, (⟨(rd_T70 y140 x5_1).f2.f0, (rd_T70 y140 x5_1).f2.f1, (rd_T70 y140 x5_1).f2.f2, wrap64 ((wrap64 ((wrap64 ((wrap64 ((wrap64 (x1_1 + 1)) + 1)) + 1)) + 1)) + 1)⟩ : S68)⟩ : S70) ) (fun _ hk => hk); have hx22_5 := hcc22 5 _ rfl; (try simp only [show (k70).sz = 6 from rfl, Nat.mul_one, Nat.add_zero] at hx22_5); have hf22_5 := hfr22 5; (try simp only [show (k70).sz = 6 from rfl, Nat.mul_one, Nat.add_zero] at hf22_5); clear hcl22 hcc22 hfr22 hM22) | ((with_reducible refine gate_store (t := 3) (p := 55) rfl ?_); refine store_event (t := 3) (p := 55) (v := ?vo_w23) (w1 := (w21.setCell ⟨go5, (x5_1 : Int).toNat * 6 + 5, none⟩ (.int .i64 (wrap64 ((wrap64 ((wrap64 ((wrap64 ((wrap64 (x1_1 + 1)) + 1)) + 1)) + 1)) + 1))))) ?hg ?ho ?hn ?hr ?_; (case ho => rfl); (case hg => rfl); (case hn => rfl); (case hr => first | (go_simp; done) | (go_simp; rfl)); intro w23 hw; have hg : w21.grownBy w23 (some go5) := (by rw [hw]; exact HP22.2); have hp_ : Kd.R k70 70 w23 w0.heap.size (fun k_ => (P0_ k_ ∨ w.heap.size ≤ k_)) (.slice (some ⟨go5, 0, none⟩) x0_1.length co11) y141 := (by rw [hw, Ny141.out]; exact HP22.1); clear HP22; replace HB := Aside0.mk ((by rw [hw]; exact below_set (HB.out) GB5.out : Below w0.heap.size w0 w23)); replace HK := Aside0.mk (Kept.of_grown (S := (fun k_ => P0_ k_)) hg (by repeat (first | (with_reducible first | exact HK.out | apply Kept.alloc | apply Kept.drewN | apply Kept.drew) | exact HK.out)) (fun k_ e_ => (HO_0.out.1 k_ e_))); replace HO_0 := Aside0.mk (hp_); clear hg hw hp_))
 go_roundg k1
 case measure => have := HK1.out; omega
 case rel => exact ⟨(y141), (wrap64 ((wrap64 ((wrap64 ((wrap64 ((wrap64 ((wrap64 (x1_1 + 1)) + 1)) + 1)) + 1)) + 1)) + 1)), (wrap64 (x5_1 + 1)), (sr_), (sr_), H', ⟨by have := HK1.out; omega⟩, ⟨ra_ HO_0.out⟩, ⟨by repeat (first | (with_reducible first | exact HK.out | apply Kept.alloc | apply Kept.drewN | apply Kept.drew) | exact HK.out)⟩, ⟨bl_⟩⟩


def laws_markText.l0 : Nat → Int → ByteArray → Option (ByteArray)
 | 0, _, _ => none
 | k + 1, x0, x3 => if x0 > 0 then ((some (([(wrap64 (48 + (Int.tmod x0 10))) % 256] : List Int) : List Int)).bind fun y316 => (if (strOfNums y316).size + x3.size ≤ 9223372036854775807 then (laws_markText.l0 k (wrap64 (Int.tdiv x0 10)) ((strOfNums y316) ++ x3)) else (none))) else (if 1 + x3.size ≤ 9223372036854775807 then (some ((⟨#[109]⟩ : ByteArray) ++ x3)) else (none))
def laws_markText.f (k : Nat) (a0 : Int) : Option (ByteArray) := if a0 ≤ 0 then (some (⟨#[109, 48]⟩ : ByteArray)) else (laws_markText.l0 k a0 (⟨#[]⟩ : ByteArray))
theorem laws_markText.mono_l : ∀ k, (∀ y0 y1, LeO (laws_markText.l0 k y0 y1) (laws_markText.l0 (k + 1) y0 y1))
 | 0 => fun _ _ r h => by simp [laws_markText.l0] at h
 | k + 1 => by
  have ih0 := laws_markText.mono_l k
  ·intro y0 y1
   unfold laws_markText.l0
   exact mo_
theorem laws_markText.mono : ∀ a0 k, LeO (laws_markText.f k a0) (laws_markText.f (k + 1) a0) := by
 intro a0 k
 have ih0 := laws_markText.mono_l k
 unfold laws_markText.f
 exact mo_
theorem laws_markText.calls (k : Nat) (a0 : Int) (r : ByteArray) (w : World) (h : laws_markText.f k a0 = some r) :
 Calls Tryd.prog 84 #[.int .i64 a0] w fun e w' => e = .returned (.string r) ∧ Below w.heap.size w w' := by
 have HB := Aside0.mk (Below.refl w.heap.size w)
 have H := h
 unfold laws_markText.f at H
 clear h
 by_cases c2 : a0 ≤ 0
 ·rw [if_pos c2] at H
  have c2b0 := decide_eq_true c2
  clear c2
  obtain rfl := Option.some.inj H
  go_enter Tryd.func84, Tryd.ntmps84
  go_wp2
  go_ret
  exact ⟨er_, bl_⟩
 rw [if_neg c2] at H
 have c2b0 := decide_eq_false c2
 clear c2
 have H' := Aside0.mk H
 clear H
 go_enter Tryd.func84, Tryd.ntmps84
 go_wp2
 go_loopg [0, 3] k (fun kq v0 v3 w' => ∃ (x0_1 : Int) (x3_1 : ByteArray), v0 = .int .i64 x0_1 ∧ v3 = .string x3_1 ∧ Aside0 (laws_markText.l0 kq x0_1 x3_1 = some r) ∧ Aside0 (kq ≤ k) ∧ Aside0 (Below w.heap.size w w'))
 case atStart => exact ⟨(a0), ((⟨#[]⟩ : ByteArray)), (sr_), (sr_), H', ⟨Nat.le_refl _⟩, ⟨bl_⟩⟩
 clear H'
 try clear c2
 try clear c2b0
 obtain ⟨x0_1, x3_1, rfl, rfl, HA, HK1, HB⟩ := hrel
 cases gk with
 | zero => exact absurd HA.out (by simp [laws_markText.l0])
 | succ k1 => ?_
 have H := HA.out
 clear HA
 simp only [laws_markText.l0] at H
 by_cases c3 : x0_1 > 0
 rotate_left
 ·rw [if_neg c3] at H
  have c3b0 := decide_eq_false c3
  clear c3
  by_cases c8 : 1 + x3_1.size ≤ 9223372036854775807
  rotate_left
  ·exact nn_ c8 H
  rw [if_pos c8] at H
  have c8b0 := eq_true c8
  have c8b1 : decide (1 + x3_1.size ≤ 9223372036854775807) = true := decide_eq_true c8
  try have c8b2 : (9223372036854775807 < 1 + x3_1.size) = False := eq_false (Nat.not_lt.2 c8)
  obtain rfl := Option.some.inj H
  go_wp2
  go_ret
  exact ⟨er_, bl_⟩
 rw [if_pos c3] at H
 have c3b0 := decide_eq_true c3
 clear c3
 obtain ⟨y316, hy316⟩ : ∃ y_ : List Int, y_ = (([(wrap64 (48 + (Int.tmod x0_1 10))) % 256] : List Int)) := ⟨_, rfl⟩
 replace H : (if (strOfNums y316).size + x3_1.size ≤ 9223372036854775807 then (laws_markText.l0 k1 (wrap64 (Int.tdiv x0_1 10)) ((strOfNums y316) ++ x3_1)) else (none)) = some r := rp_ H hy316
 have Ny316 := Aside0.mk hy316
 clear hy316
 by_cases c4 : (strOfNums y316).size + x3_1.size ≤ 9223372036854775807
 rotate_left
 ·exact nn_ c4 H
 rw [if_pos c4] at H
 have c4b0 := eq_true c4
 have c4b1 : decide ((strOfNums y316).size + x3_1.size ≤ 9223372036854775807) = true := decide_eq_true c4
 try have c4b2 : (9223372036854775807 < (strOfNums y316).size + x3_1.size) = False := eq_false (Nat.not_lt.2 c4)
 have H' := Aside0.mk H
 clear H
 go_wp2_with (first | ((with_reducible refine gate_dst (N := 12) rfl ?_); refine Kd.R_lit (Kd.int .u8) _ 5 ?hg (N := 12) ?hd (xs := ([(wrap64 (48 + (Int.tmod x0_1 10))) % 256] : List Int)) (inner := [.int .u8 ((wrap64 (48 + (Int.tmod x0_1 10))) % 256)]) (ok := fun _ => True) (okp := fun _ => True) ?hr ?hp (fun _ hk => hk) trivial (Below.refl _ _) (Nat.le_refl _) (by simp) ?_; (case hd => rfl); (case hg => rfl); (case hr => first | (go_simp; done) | (go_simp; rfl)); (case hp => exact (Reps.one (show Kd.M (Kd.int .u8) _ _ _ ((wrap64 (48 + (Int.tmod x0_1 10))) % 256) [.int .u8 ((wrap64 (48 + (Int.tmod x0_1 10))) % 256)] from rfl) (Reps.none _ _))); intro v317 w5 ho6 hb hg_ hnew_; clear hg_ hnew_; (first | rw [← Ny316.out] at ho6 | (simp only [Int.reduceToNat] at ho6; rw [← Ny316.out] at ho6)); have HO318 := Aside0.mk (Kd.R_lower ho6 (below_size bl_)); replace HB := Aside0.mk (below_step bl_ hb); clear hb ho6; have hcv7 := own_string (P := Tryd.prog) Tryd.underlying61 Tryd.underlying5 Tryd.underlying9 (Kd.own_of_R HO318.out)))
 go_roundg k1
 case measure => have := HK1.out; omega
 case rel => exact ⟨(wrap64 (Int.tdiv x0_1 10)), ((strOfNums y316) ++ x3_1), (sr_), (sr_), H', ⟨by have := HK1.out; omega⟩, ⟨bl_⟩⟩


def laws_markSegmentS.l0 : Nat → List (S30) → Int → Int → Option (Int × (List (S30)))
 | 0, _, _, _ => none
 | k + 1, x0, x1, x5 => if x5 < (x0.length : Int) then (if 0 ≤ x5 then ((some (x0.set (x5 : Int).toNat (⟨x1, (rd_T30 x0 x5).f1, (rd_T30 x0 x5).f2, (rd_T30 x0 x5).f3⟩ : S30) : List (S30))).bind fun y123 => ((laws_markText.f k (wrap64 (x1 + 1))).bind fun t124 => ((some (y123.set (x5 : Int).toNat (⟨(rd_T30 y123 x5).f0, t124, (rd_T30 y123 x5).f2, (rd_T30 y123 x5).f3⟩ : S30) : List (S30))).bind fun y125 => ((laws_markEntryS.f k ((rd_T30 y125 x5).f2) (wrap64 ((wrap64 (x1 + 1)) + 1))).bind fun bt126 => ((some (y125.set (x5 : Int).toNat (⟨(rd_T30 y125 x5).f0, (rd_T30 y125 x5).f1, bt126.2, (rd_T30 y125 x5).f3⟩ : S30) : List (S30))).bind fun y126 => ((laws_markText.f k bt126.1).bind fun t128 => (laws_markSegmentS.l0 k (y126.set (x5 : Int).toNat (⟨(rd_T30 y126 x5).f0, (rd_T30 y126 x5).f1, (rd_T30 y126 x5).f2, t128⟩ : S30)) (wrap64 (bt126.1 + 1)) (wrap64 (x5 + 1))))))))) else (none)) else (some (x1, x0))
def laws_markSegmentS.f (k : Nat) (l0 : List (S30)) (a1 : Int) : Option (Int × (List (S30))) := laws_markSegmentS.l0 k l0 a1 0
theorem laws_markSegmentS.mono_l : ∀ k, (∀ y0 y1 y2, LeO (laws_markSegmentS.l0 k y0 y1 y2) (laws_markSegmentS.l0 (k + 1) y0 y1 y2))
 | 0 => fun _ _ _ r h => by simp [laws_markSegmentS.l0] at h
 | k + 1 => by
  have ih0 := laws_markSegmentS.mono_l k
  ·intro y0 y1 y2
   unfold laws_markSegmentS.l0
   have m0 := @laws_markEntryS.mono
   have m1 := @laws_markText.mono
   exact mo_
theorem laws_markSegmentS.mono : ∀ a0 a1 k, LeO (laws_markSegmentS.f k a0 a1) (laws_markSegmentS.f (k + 1) a0 a1) := by
 intro a0 a1 k
 have ih0 := laws_markSegmentS.mono_l k
 unfold laws_markSegmentS.f
 have m0 := @laws_markEntryS.mono
 have m1 := @laws_markText.mono
 exact mo_
theorem laws_markSegmentS.calls (k : Nat) (P0_ : Nat → Prop) (u9000_ : Value) (l0 : List (S30)) (a1 : Int) (r1 : Int) (r2 : List (S30)) (w0 w : World) (hB : Below w0.heap.size w0 w) (ho0 : Kd.S k30 30 w w0.heap.size P0_ u9000_ l0) (h : laws_markSegmentS.f k l0 a1 = some (r1, r2)) :
 Calls Tryd.prog 36 #[u9000_, .int .i64 a1] w fun e w' => e = .returned (.int .i64 r1) ∧ Kd.S k30 30 w' w0.heap.size (fun k_ => (P0_ k_ ∨ w.heap.size ≤ k_)) u9000_ r2 ∧ Below w0.heap.size w0 w' ∧ Kept w w' (fun k_ => P0_ k_) := by
 have HO0 := Aside0.mk (show Kd.S k30 30 w w0.heap.size (fun k_ => (P0_ k_ ∨ w.heap.size ≤ k_)) u9000_ l0 from Kd.S_mono ho0 (fun k_ hk => (.inl hk)))
 have HK := Aside0.mk (Kept.refl w (fun k_ => P0_ k_))
 have HW0 := Aside0.mk hB.size
 have HB := Aside0.mk hB
 clear hB
 have H := h
 unfold laws_markSegmentS.f at H
 clear h
 have H' := Aside0.mk H
 clear H
 go_enter Tryd.func36, Tryd.ntmps36
 go_wp2
 go_loopg [1, 5] k (fun kq v1 v5 w' => ∃ (x0_1 : List (S30)) (x1_1 : Int) (x5_1 : Int), v1 = .int .i64 x1_1 ∧ v5 = .int .i64 x5_1 ∧ Aside0 (laws_markSegmentS.l0 kq x0_1 x1_1 x5_1 = some (r1, r2)) ∧ Aside0 (kq ≤ k) ∧ Aside0 (Kd.S k30 30 w' w0.heap.size (fun k_ => (P0_ k_ ∨ w.heap.size ≤ k_)) u9000_ x0_1) ∧ Aside0 (Kept w w' (fun k_ => P0_ k_)) ∧ Aside0 (Below w0.heap.size w0 w'))
 case atStart => exact ⟨(l0), (a1), (0), (sr_), (sr_), H', ⟨Nat.le_refl _⟩, ⟨by (with_reducible repeat (first | apply Kd.S_alloc | apply Kd.S_drewN | apply Kd.S_drew)); exact HO0.out⟩, ⟨by repeat (first | (with_reducible first | exact HK.out | apply Kept.alloc | apply Kept.drewN | apply Kept.drew) | exact HK.out)⟩, ⟨bl_⟩⟩
 clear H'
 obtain ⟨x0_1, x1_1, x5_1, rfl, rfl, HA, HK1, HO_0, HK, HB⟩ := hrel
 cases gk with
 | zero => exact absurd HA.out (by simp [laws_markSegmentS.l0])
 | succ k1 => ?_
 have H := HA.out
 clear HA
 simp only [laws_markSegmentS.l0] at H
 by_cases c3 : x5_1 < (x0_1.length : Int)
 rotate_left
 ·rw [if_neg c3] at H
  have c3b0 := decide_eq_false c3
  clear c3
  simp only [Option.some.injEq, Prod.mk.injEq] at H
  obtain ⟨rfl, rfl⟩ := H
  obtain ⟨Ao20, co20, eo20⟩ := Kd.S_slice HO_0.out
  subst eo20
  go_wp2
  go_ret
  exact ⟨er_, by (with_reducible repeat (first | apply Kd.S_alloc | apply Kd.S_drewN | apply Kd.S_drew)); exact HO_0.out, bl_, by repeat (first | (with_reducible first | exact HK.out | apply Kept.alloc | apply Kept.drewN | apply Kept.drew) | exact HK.out)⟩
 rw [if_pos c3] at H
 have c3b0 := decide_eq_true c3
 clear c3
 by_cases c4 : 0 ≤ x5_1
 rotate_left
 ·exact nn_ c4 H
 rw [if_pos c4] at H
 have c4b0 := decide_eq_true c4
 clear c4
 obtain ⟨y123, hy123⟩ : ∃ y_ : List (S30), y_ = (x0_1.set (x5_1 : Int).toNat (⟨x1_1, (rd_T30 x0_1 x5_1).f1, (rd_T30 x0_1 x5_1).f2, (rd_T30 x0_1 x5_1).f3⟩ : S30)) := ⟨_, rfl⟩
 replace H : ((laws_markText.f k1 (wrap64 (x1_1 + 1))).bind fun t124 => ((some (y123.set (x5_1 : Int).toNat (⟨(rd_T30 y123 x5_1).f0, t124, (rd_T30 y123 x5_1).f2, (rd_T30 y123 x5_1).f3⟩ : S30) : List (S30))).bind fun y125 => ((laws_markEntryS.f k1 ((rd_T30 y125 x5_1).f2) (wrap64 ((wrap64 (x1_1 + 1)) + 1))).bind fun bt126 => ((some (y125.set (x5_1 : Int).toNat (⟨(rd_T30 y125 x5_1).f0, (rd_T30 y125 x5_1).f1, bt126.2, (rd_T30 y125 x5_1).f3⟩ : S30) : List (S30))).bind fun y126 => ((laws_markText.f k1 bt126.1).bind fun t128 => (laws_markSegmentS.l0 k1 (y126.set (x5_1 : Int).toNat (⟨(rd_T30 y126 x5_1).f0, (rd_T30 y126 x5_1).f1, (rd_T30 y126 x5_1).f2, t128⟩ : S30)) (wrap64 (bt126.1 + 1)) (wrap64 (x5_1 + 1)))))))) = some (r1, r2) := rp_ H hy123
 have Ny123 := Aside0.mk hy123
 clear hy123
 replace H := bs_ H
 obtain ⟨t124, A6, H⟩ := H
 try dsimp only at H
 obtain ⟨y125, hy125⟩ : ∃ y_ : List (S30), y_ = (y123.set (x5_1 : Int).toNat (⟨(rd_T30 y123 x5_1).f0, t124, (rd_T30 y123 x5_1).f2, (rd_T30 y123 x5_1).f3⟩ : S30)) := ⟨_, rfl⟩
 replace H : ((laws_markEntryS.f k1 ((rd_T30 y125 x5_1).f2) (wrap64 ((wrap64 (x1_1 + 1)) + 1))).bind fun bt126 => ((some (y125.set (x5_1 : Int).toNat (⟨(rd_T30 y125 x5_1).f0, (rd_T30 y125 x5_1).f1, bt126.2, (rd_T30 y125 x5_1).f3⟩ : S30) : List (S30))).bind fun y126 => ((laws_markText.f k1 bt126.1).bind fun t128 => (laws_markSegmentS.l0 k1 (y126.set (x5_1 : Int).toNat (⟨(rd_T30 y126 x5_1).f0, (rd_T30 y126 x5_1).f1, (rd_T30 y126 x5_1).f2, t128⟩ : S30)) (wrap64 (bt126.1 + 1)) (wrap64 (x5_1 + 1)))))) = some (r1, r2) := rp_ H hy125
 have Ny125 := Aside0.mk hy125
 clear hy125
 replace H := bs_ H
 obtain ⟨⟨t127, t126⟩, A8, H⟩ := H
 try dsimp only at H
 obtain ⟨y126, hy126⟩ : ∃ y_ : List (S30), y_ = (y125.set (x5_1 : Int).toNat (⟨(rd_T30 y125 x5_1).f0, (rd_T30 y125 x5_1).f1, t126, (rd_T30 y125 x5_1).f3⟩ : S30)) := ⟨_, rfl⟩
 replace H : ((laws_markText.f k1 t127).bind fun t128 => (laws_markSegmentS.l0 k1 (y126.set (x5_1 : Int).toNat (⟨(rd_T30 y126 x5_1).f0, (rd_T30 y126 x5_1).f1, (rd_T30 y126 x5_1).f2, t128⟩ : S30)) (wrap64 (t127 + 1)) (wrap64 (x5_1 + 1)))) = some (r1, r2) := by rw [hy126]; exact (Option.bind_some _ _).symm.trans H
 have Ny126 := Aside0.mk hy126
 clear hy126
 replace H := bs_ H
 obtain ⟨t128, A9, H⟩ := H
 try dsimp only at H
 obtain ⟨y129, hy129⟩ : ∃ y_ : List (S30), y_ = (y126.set (x5_1 : Int).toNat (⟨(rd_T30 y126 x5_1).f0, (rd_T30 y126 x5_1).f1, (rd_T30 y126 x5_1).f2, t128⟩ : S30)) := ⟨_, rfl⟩
 replace H : (laws_markSegmentS.l0 k1 y129 (wrap64 (t127 + 1)) (wrap64 (x5_1 + 1))) = some (r1, r2) := rp_ H hy129
 have Ny129 := Aside0.mk hy129
 clear hy129
 have H' := Aside0.mk H
 clear H
 obtain ⟨Ao11, co11, eo11⟩ := Kd.S_slice HO_0.out
 subst eo11
 have p5 : 0 ≤ (x5_1 : Int) := of_decide_eq_true as_
 have q5 : (x5_1 : Int) < ((x0_1.length : Int) : Int) := of_decide_eq_true as_
 obtain ⟨go5, co5, eo5, gb5, gl5, cl5, HG5⟩ := Kd.S_form HO_0.out (by omega)
 (first | cases eo5 | (injection eo5 with ea_ en_ ec_; (first | subst ea_ | (injection ea_ with ea_; subst ea_)); subst ec_; clear en_))
 have GB5 := Aside0.mk gb5
 have GG5 := Aside0.mk HG5
 clear gb5 gl5 HG5
 have HMgo5 := Aside0.mk (show (P0_ go5 ∨ w.heap.size ≤ go5) from ((Kd.S_R HO_0.out).1 _ rfl))
 obtain ⟨_, ce5, hcl5, hM5, hcc5, hfr5, _, _⟩ := Kd.S_elem HO_0.out z30 (x5_1 : Int) p5 q5
 obtain ⟨ve5_2, rfl, ge5_2⟩ := k30_openM hM5
 have hx5_0 : wr.cell? ⟨go5, (x5_1 : Int).toNat * 4, none⟩ = some (.int .i64 ((rd_T30 x0_1 x5_1).f0)) := hcc5 0 _ rfl
 have hx5_1 : wr.cell? ⟨go5, (x5_1 : Int).toNat * 4 + 1, none⟩ = some (.string ((rd_T30 x0_1 x5_1).f1)) := hcc5 1 _ rfl
 have hx5_2 : wr.cell? ⟨go5, (x5_1 : Int).toNat * 4 + 2, none⟩ = some (ve5_2) := hcc5 2 _ rfl
 have hx5_3 : wr.cell? ⟨go5, (x5_1 : Int).toNat * 4 + 3, none⟩ = some (.string ((rd_T30 x0_1 x5_1).f3)) := hcc5 3 _ rfl
 have hf5_0 : wr.frozen? ⟨go5, (x5_1 : Int).toNat * 4, none⟩ = false := hfr5 0
 have hf5_1 : wr.frozen? ⟨go5, (x5_1 : Int).toNat * 4 + 1, none⟩ = false := hfr5 1
 have hf5_2 : wr.frozen? ⟨go5, (x5_1 : Int).toNat * 4 + 2, none⟩ = false := hfr5 2
 have hf5_3 : wr.frozen? ⟨go5, (x5_1 : Int).toNat * 4 + 3, none⟩ = false := hfr5 3
 clear hcl5 hcc5 hfr5 hM5
 replace p5 := eq_true p5
 replace q5 := eq_true q5
 have HX12 := Aside0.mk (show Kd.S k30 30 wr w0.heap.size (fun k_ => ((fun k_ => (P0_ k_ ∨ w.heap.size ≤ k_))) k_ ∧ ¬ ((fun _ => False)) k_) (.slice (some ⟨go5, 0, none⟩) x0_1.length co11) x0_1 from (by (with_reducible repeat (first | apply Kd.S_alloc | apply Kd.S_drewN | apply Kd.S_drew)); exact Kd.S_mono HO_0.out (fun k_ hk => ⟨hk, fun e_ => e_⟩)))
 obtain ⟨oki12, ce12, hcl12, hM12, hcc12, hfr12, hoki12, hH12⟩ := Kd.S_elem HX12.out z30 (x5_1 : Int) (of_decide_eq_true as_) (by have h_ : (x5_1 : Int) < ((x0_1.length : Int) : Int) := of_decide_eq_true as_; first | exact h_ | (have e_ := (Kd.S_reads' HO_0.out).1; omega) | simpa using h_)
 obtain ⟨ve12_2, rfl, ge12_2⟩ := k30_openM hM12
 have HP12 := Kd.S_seg hH12 (of_decide_eq_true as_) (by have h_ : (x5_1 : Int) < ((x0_1.length : Int) : Int) := of_decide_eq_true as_; first | exact h_ | (have e_ := (Kd.S_reads' HO_0.out).1; omega) | simpa using h_) (seg := [.int .i64 x1_1]) (j := 0) (show 1 ≤ 4 from by decide) (x' := (⟨x1_1, (rd_T30 x0_1 x5_1).f1, (rd_T30 x0_1 x5_1).f2, (rd_T30 x0_1 x5_1).f3⟩ : S30)) (k30_mkM _ _ _ (⟨x1_1, (rd_T30 x0_1 x5_1).f1, (rd_T30 x0_1 x5_1).f2, (rd_T30 x0_1 x5_1).f3⟩ : S30) (Kd.R_mono ge12_2 (fun _ h_ => Or.inl h_))) (fun _ hk => hk) (fun k_ hk_ => hk_.elim)
 have hx12_0 := hcc12 0 _ rfl
 (try simp only [show (k30).sz = 4 from rfl, Nat.mul_one, Nat.add_zero] at hx12_0)
 have hf12_0 := hfr12 0
 (try simp only [show (k30).sz = 4 from rfl, Nat.mul_one, Nat.add_zero] at hf12_0)
 clear hcl12 hcc12 hfr12 hM12 hoki12 hH12
 go_wp2_with (first | ((with_reducible refine gate_store (t := 3) (p := 16) rfl ?_); refine store_event (t := 3) (p := 16) (v := ?vo_w13) (w1 := (wr.setCell ⟨go5, (x5_1 : Int).toNat * 4, none⟩ (.int .i64 x1_1))) ?hg ?ho ?hn ?hr ?_; (case ho => rfl); (case hg => rfl); (case hn => rfl); (case hr => first | (go_simp; done) | (go_simp; rfl)); intro w13 hw; have hg : wr.grownBy w13 (some go5) := (by rw [hw]; exact HP12.2); have hp_ : Kd.S k30 30 w13 w0.heap.size (fun k_ => (P0_ k_ ∨ w.heap.size ≤ k_)) (.slice (some ⟨go5, 0, none⟩) x0_1.length co11) y123 := (by rw [hw, Ny123.out]; exact HP12.1); clear HP12; replace HB := Aside0.mk ((by rw [hw]; exact below_set (HB.out) GB5.out : Below w0.heap.size w0 w13)); replace HK := Aside0.mk (Kept.of_grown (S := (fun k_ => P0_ k_)) hg (by repeat (first | (with_reducible first | exact HK.out | apply Kept.alloc | apply Kept.drewN | apply Kept.drew) | exact HK.out)) (fun k_ e_ => ((Kd.S_R HO_0.out).1 k_ e_))); replace HO_0 := Aside0.mk (hp_); clear hg hw hp_) | ((with_reducible refine gate_callee (f := 84) rfl ?_); refine gs_ (some 22) Tryd.func84 #[.int .i64 (wrap64 (x1_1 + 1))] ?_; (with_reducible refine (laws_markText.calls k1 (wrap64 (x1_1 + 1)) t124 _ A6.out).mono ?_); rintro e w14 ⟨rfl, hb⟩; refine ⟨_, rfl, ?_⟩; replace HO_0 := Aside0.mk (Kd.S_below (by (with_reducible repeat (first | apply Kd.S_alloc | apply Kd.S_drewN | apply Kd.S_drew)); exact HO_0.out) hb); replace HK := Aside0.mk (Kept.below (S := (fun k_ => P0_ k_)) (by repeat (first | (with_reducible first | exact HK.out | apply Kept.alloc | apply Kept.drewN | apply Kept.drew) | exact HK.out)) hb); replace HB := Aside0.mk (below_step bl_ hb); (try clear hb); have p7 : 0 ≤ (x5_1 : Int) := of_decide_eq_true as_; have q7 : (x5_1 : Int) < ((x0_1.length : Int) : Int) := of_decide_eq_true as_; obtain ⟨_, ce7, hcl7, hM7, hcc7, hfr7, _, _⟩ := Kd.S_elem HO_0.out z30 (x5_1 : Int) p7 q7; obtain ⟨ve7_2, rfl, ge7_2⟩ := k30_openM hM7; have hx7_0 : w14.cell? ⟨go5, (x5_1 : Int).toNat * 4, none⟩ = some (.int .i64 ((rd_T30 y123 x5_1).f0)) := hcc7 0 _ rfl; have hx7_1 : w14.cell? ⟨go5, (x5_1 : Int).toNat * 4 + 1, none⟩ = some (.string ((rd_T30 y123 x5_1).f1)) := hcc7 1 _ rfl; have hx7_2 : w14.cell? ⟨go5, (x5_1 : Int).toNat * 4 + 2, none⟩ = some (ve7_2) := hcc7 2 _ rfl; have hx7_3 : w14.cell? ⟨go5, (x5_1 : Int).toNat * 4 + 3, none⟩ = some (.string ((rd_T30 y123 x5_1).f3)) := hcc7 3 _ rfl; have hf7_0 : w14.frozen? ⟨go5, (x5_1 : Int).toNat * 4, none⟩ = false := hfr7 0; have hf7_1 : w14.frozen? ⟨go5, (x5_1 : Int).toNat * 4 + 1, none⟩ = false := hfr7 1; have hf7_2 : w14.frozen? ⟨go5, (x5_1 : Int).toNat * 4 + 2, none⟩ = false := hfr7 2; have hf7_3 : w14.frozen? ⟨go5, (x5_1 : Int).toNat * 4 + 3, none⟩ = false := hfr7 3; clear hcl7 hcc7 hfr7 hM7; replace p7 := eq_true p7; replace q7 := eq_true q7; have HX15 := Aside0.mk (show Kd.S k30 30 w14 w0.heap.size (fun k_ => ((fun k_ => (P0_ k_ ∨ w.heap.size ≤ k_))) k_ ∧ ¬ ((fun _ => False)) k_) (.slice (some ⟨go5, 0, none⟩) x0_1.length co11) y123 from (by (with_reducible repeat (first | apply Kd.S_alloc | apply Kd.S_drewN | apply Kd.S_drew)); exact Kd.S_mono HO_0.out (fun k_ hk => ⟨hk, fun e_ => e_⟩))); obtain ⟨oki15, ce15, hcl15, hM15, hcc15, hfr15, hoki15, hH15⟩ := Kd.S_elem HX15.out z30 (x5_1 : Int) (of_decide_eq_true as_) (by have h_ : (x5_1 : Int) < ((x0_1.length : Int) : Int) := of_decide_eq_true as_; first | exact h_ | (have e_ := (Kd.S_reads' HO_0.out).1; omega) | simpa using h_); obtain ⟨ve15_2, rfl, ge15_2⟩ := k30_openM hM15; have HP15 := Kd.S_seg hH15 (of_decide_eq_true as_) (by have h_ : (x5_1 : Int) < ((x0_1.length : Int) : Int) := of_decide_eq_true as_; first | exact h_ | (have e_ := (Kd.S_reads' HO_0.out).1; omega) | simpa using h_) (seg := [.string t124]) (j := 1) (show 2 ≤ 4 from by decide) (x' := (⟨(rd_T30 y123 x5_1).f0, t124, (rd_T30 y123 x5_1).f2, (rd_T30 y123 x5_1).f3⟩ : S30)) (k30_mkM _ _ _ (⟨(rd_T30 y123 x5_1).f0, t124, (rd_T30 y123 x5_1).f2, (rd_T30 y123 x5_1).f3⟩ : S30) (Kd.R_mono ge15_2 (fun _ h_ => Or.inl h_))) (fun _ hk => hk) (fun k_ hk_ => hk_.elim); have hx15_1 := hcc15 1 _ rfl; (try simp only [show (k30).sz = 4 from rfl, Nat.mul_one, Nat.add_zero] at hx15_1); have hf15_1 := hfr15 1; (try simp only [show (k30).sz = 4 from rfl, Nat.mul_one, Nat.add_zero] at hf15_1); clear hcl15 hcc15 hfr15 hM15 hoki15 hH15) | ((with_reducible refine gate_store (t := 9) (p := 24) rfl ?_); refine store_event (t := 9) (p := 24) (v := ?vo_w16) (w1 := (w14.setCell ⟨go5, (x5_1 : Int).toNat * 4 + 1, none⟩ (.string t124))) ?hg ?ho ?hn ?hr ?_; (case ho => rfl); (case hg => rfl); (case hn => rfl); (case hr => first | (go_simp; done) | (go_simp; rfl)); intro w16 hw; have hg : w14.grownBy w16 (some go5) := (by rw [hw]; exact HP15.2); have hp_ : Kd.S k30 30 w16 w0.heap.size (fun k_ => (P0_ k_ ∨ w.heap.size ≤ k_)) (.slice (some ⟨go5, 0, none⟩) x0_1.length co11) y125 := (by rw [hw, Ny125.out]; exact HP15.1); clear HP15; replace HB := Aside0.mk ((by rw [hw]; exact below_set (HB.out) GB5.out : Below w0.heap.size w0 w16)); replace HK := Aside0.mk (Kept.of_grown (S := (fun k_ => P0_ k_)) hg (by repeat (first | (with_reducible first | exact HK.out | apply Kept.alloc | apply Kept.drewN | apply Kept.drew) | exact HK.out)) (fun k_ e_ => ((Kd.S_R HO_0.out).1 k_ e_))); replace HO_0 := Aside0.mk (hp_); clear hg hw hp_; have p126 : 0 ≤ (x5_1 : Int) := of_decide_eq_true as_; have q126 : x5_1 < (y125.length : Int) := (by have h_ : (x5_1 : Int) < ((x0_1.length : Int) : Int) := of_decide_eq_true as_; first | (have e_ := (Kd.S_reads' HO_0.out).1; omega) | simpa only [Ny123.out, Ny125.out, List.length_set] using h_); have ql126 : ((x5_1 : Int) < ((x0_1.length : Int) : Int)) = True := eq_true (of_decide_eq_true as_); obtain ⟨ad126, A126_2, c126_2, e126, hx126_0, hx126_1, hx126_2, hx126_3, hl126_2, hi126_2⟩ := at_T30 (Kd.S_reads' HO_0.out).2.2 x5_1 p126 q126; obtain rfl : (⟨go5, 0, none⟩ : Addr) = ad126 := (by injection e126); obtain ⟨ce126, hce126, hMe126, hcc126⟩ := Kd.S_get HO_0.out z30 x5_1 p126 (by first | exact q126 | exact of_decide_eq_true as_ | (have e_ := (Kd.S_reads' HO_0.out).1; omega)); obtain ⟨ve126_2, rfl, ge126_2⟩ := k30_openM hMe126; have hv126_2 := hcc126 2 _ rfl; rw [add_field _ _ 2 (by omega)] at hv126_2; replace hv126_2 := Option.some.inj (hv126_2.symm.trans hx126_2); rw [hv126_2] at ge126_2; have HL126_2 := Aside0.mk (show Kd.R k70 70 _ _ _ _ ((rd_T30 y125 x5_1).f2) from ge126_2); clear hv126_2 ge126_2; clear hcc126 hce126; (first | simp only [add_plain] at hx126_0 | simp only [add_at] at hx126_0 | simp only [Addr.add, Nat.zero_add] at hx126_0 | skip); (first | simp only [add_plain] at hx126_1 | simp only [add_at] at hx126_1 | simp only [Addr.add, Nat.zero_add] at hx126_1 | skip); (first | simp only [add_plain] at hx126_2 | simp only [add_at] at hx126_2 | simp only [Addr.add, Nat.zero_add] at hx126_2 | skip); (first | simp only [add_plain] at hx126_3 | simp only [add_at] at hx126_3 | simp only [Addr.add, Nat.zero_add] at hx126_3 | skip); have HR126_2 := Aside0.mk hi126_2; have HC126_2 := Aside0.mk hl126_2; clear hi126_2 hl126_2; replace p126 := eq_true p126; replace q126 := eq_true q126) | ((with_reducible refine gate_callee (f := 30) rfl ?_); refine gs_ (some 33) Tryd.func30 #[.slice A126_2 ((rd_T30 y125 x5_1).f2).length c126_2, .int .i64 (wrap64 ((wrap64 (x1_1 + 1)) + 1))] ?_; obtain ⟨oki_, ce_, hcl_, hM_, hcc_, hoki_, hH_⟩ := Kd.S_lend HO_0.out z30 (x5_1 : Int) (of_decide_eq_true as_) (by have h_ : (x5_1 : Int) < ((x0_1.length : Int) : Int) := of_decide_eq_true as_; exact h_); obtain ⟨ve_, rfl, hg_⟩ := k30_openM hM_; have e_ := (hcc_ 2 _ rfl).symm.trans hx126_2; injection e_ with e_; subst e_; (with_reducible refine (laws_markEntryS.calls k1 (fun k_ => some k_ = (.slice A126_2 ((rd_T30 y125 x5_1).f2).length c126_2 : Value).ownBlock) (.slice A126_2 ((rd_T30 y125 x5_1).f2).length c126_2 : Value) ((rd_T30 y125 x5_1).f2) (wrap64 ((wrap64 (x1_1 + 1)) + 1)) t127 t126 w0 _ ?side1 ?side2 A8.out).mono ?_); (case side1 => exact HB.out); (case side2 => exact Kd.R_tight rfl hg_); rintro e w16b ⟨rfl, hy0, hb, hkp⟩; refine ⟨_, rfl, ?_⟩; have hH2_ := Kd.H_step hH_ (fun k_ _ hn_ hlt_ => hkp.2 k_ hlt_ (fun e_ => hn_ (hg_.1 k_ e_.symm))); have hS_ := Kd.H_back hH2_ (x' := (⟨(rd_T30 y125 x5_1).f0, (rd_T30 y125 x5_1).f1, t126, (rd_T30 y125 x5_1).f3⟩ : S30)) (k30_mkM _ _ oki_ (⟨(rd_T30 y125 x5_1).f0, (rd_T30 y125 x5_1).f1, t126, (rd_T30 y125 x5_1).f3⟩ : S30) (Kd.R_reok rfl hy0 (fun k_ e_ => hg_.1 k_ e_))) (fun _ hk => hk); have n0_ := Aside0.mk (show Kd.S k30 30 w16b w0.heap.size (fun k_ => (P0_ k_ ∨ w.heap.size ≤ k_)) (.slice (some ⟨go5, 0, none⟩) x0_1.length co11) y126 from (by rw [Ny126.out]; exact hS_)); have n1_ := Aside0.mk (Kept.then_ (S := (fun k_ => P0_ k_)) HK.out hkp (fun k_ hs_ => (hoki_ k_ (hg_.1 k_ hs_.symm)).1)); have n2_ := Aside0.mk hb; clear hS_ hH2_ hH_ hy0 hkp hb hg_ hoki_ hcc_ hcl_ hM_ HL126_2 HR126_2; clear HO_0; clear HK; clear HB; have HO_0 := n0_; have HK := n1_; have HB := n2_; clear n0_ n1_ n2_) | ((with_reducible refine gate_callee (f := 84) rfl ?_); refine gs_ (some 37) Tryd.func84 #[.int .i64 t127] ?_; (with_reducible refine (laws_markText.calls k1 t127 t128 _ A9.out).mono ?_); rintro e w17 ⟨rfl, hb⟩; refine ⟨_, rfl, ?_⟩; have n0_ := Aside0.mk (Kd.S_below (by (with_reducible repeat (first | apply Kd.S_alloc | apply Kd.S_drewN | apply Kd.S_drew)); exact HO_0.out) hb); have n3_ := Aside0.mk (Kept.below (S := (fun k_ => P0_ k_)) (by repeat (first | (with_reducible first | exact HK.out | apply Kept.alloc | apply Kept.drewN | apply Kept.drew) | exact HK.out)) hb); have n4_ := Aside0.mk (below_step bl_ hb); clear HO_0; clear HK; clear HB; have HO_0 := n0_; have HK := n3_; have HB := n4_; (try clear n0_); (try clear n1_); (try clear n2_); (try clear n3_); (try clear n4_); (try clear hb); have p10 : 0 ≤ (x5_1 : Int) := of_decide_eq_true as_; have q10 : (x5_1 : Int) < ((x0_1.length : Int) : Int) := of_decide_eq_true as_; obtain ⟨_, ce10, hcl10, hM10, hcc10, hfr10, _, _⟩ := Kd.S_elem HO_0.out z30 (x5_1 : Int) p10 q10; obtain ⟨ve10_2, rfl, ge10_2⟩ := k30_openM hM10; have hx10_0 : w17.cell? ⟨go5, (x5_1 : Int).toNat * 4, none⟩ = some (.int .i64 ((rd_T30 y126 x5_1).f0)) := hcc10 0 _ rfl; have hx10_1 : w17.cell? ⟨go5, (x5_1 : Int).toNat * 4 + 1, none⟩ = some (.string ((rd_T30 y126 x5_1).f1)) := hcc10 1 _ rfl; have hx10_2 : w17.cell? ⟨go5, (x5_1 : Int).toNat * 4 + 2, none⟩ = some (ve10_2) := hcc10 2 _ rfl; have hx10_3 : w17.cell? ⟨go5, (x5_1 : Int).toNat * 4 + 3, none⟩ = some (.string ((rd_T30 y126 x5_1).f3)) := hcc10 3 _ rfl; have hf10_0 : w17.frozen? ⟨go5, (x5_1 : Int).toNat * 4, none⟩ = false := hfr10 0; have hf10_1 : w17.frozen? ⟨go5, (x5_1 : Int).toNat * 4 + 1, none⟩ = false := hfr10 1; have hf10_2 : w17.frozen? ⟨go5, (x5_1 : Int).toNat * 4 + 2, none⟩ = false := hfr10 2; have hf10_3 : w17.frozen? ⟨go5, (x5_1 : Int).toNat * 4 + 3, none⟩ = false := hfr10 3; clear hcl10 hcc10 hfr10 hM10; replace p10 := eq_true p10; replace q10 := eq_true q10; have HX18 := Aside0.mk (show Kd.S k30 30 w17 w0.heap.size (fun k_ => ((fun k_ => (P0_ k_ ∨ w.heap.size ≤ k_))) k_ ∧ ¬ ((fun _ => False)) k_) (.slice (some ⟨go5, 0, none⟩) x0_1.length co11) y126 from (by (with_reducible repeat (first | apply Kd.S_alloc | apply Kd.S_drewN | apply Kd.S_drew)); exact Kd.S_mono HO_0.out (fun k_ hk => ⟨hk, fun e_ => e_⟩))); obtain ⟨oki18, ce18, hcl18, hM18, hcc18, hfr18, hoki18, hH18⟩ := Kd.S_elem HX18.out z30 (x5_1 : Int) (of_decide_eq_true as_) (by have h_ : (x5_1 : Int) < ((x0_1.length : Int) : Int) := of_decide_eq_true as_; first | exact h_ | (have e_ := (Kd.S_reads' HO_0.out).1; omega) | simpa using h_); obtain ⟨ve18_2, rfl, ge18_2⟩ := k30_openM hM18; have HP18 := Kd.S_seg hH18 (of_decide_eq_true as_) (by have h_ : (x5_1 : Int) < ((x0_1.length : Int) : Int) := of_decide_eq_true as_; first | exact h_ | (have e_ := (Kd.S_reads' HO_0.out).1; omega) | simpa using h_) (seg := [.string t128]) (j := 3) (show 4 ≤ 4 from by decide) (x' := (⟨(rd_T30 y126 x5_1).f0, (rd_T30 y126 x5_1).f1, (rd_T30 y126 x5_1).f2, t128⟩ : S30)) (k30_mkM _ _ _ (⟨(rd_T30 y126 x5_1).f0, (rd_T30 y126 x5_1).f1, (rd_T30 y126 x5_1).f2, t128⟩ : S30) (Kd.R_mono ge18_2 (fun _ h_ => Or.inl h_))) (fun _ hk => hk) (fun k_ hk_ => hk_.elim); have hx18_3 := hcc18 3 _ rfl; (try simp only [show (k30).sz = 4 from rfl, Nat.mul_one, Nat.add_zero] at hx18_3); have hf18_3 := hfr18 3; (try simp only [show (k30).sz = 4 from rfl, Nat.mul_one, Nat.add_zero] at hf18_3); clear hcl18 hcc18 hfr18 hM18 hoki18 hH18) | ((with_reducible refine gate_store (t := 9) (p := 39) rfl ?_); refine store_event (t := 9) (p := 39) (v := ?vo_w19) (w1 := (w17.setCell ⟨go5, (x5_1 : Int).toNat * 4 + 3, none⟩ (.string t128))) ?hg ?ho ?hn ?hr ?_; (case ho => rfl); (case hg => rfl); (case hn => rfl); (case hr => first | (go_simp; done) | (go_simp; rfl)); intro w19 hw; have hg : w17.grownBy w19 (some go5) := (by rw [hw]; exact HP18.2); have hp_ : Kd.S k30 30 w19 w0.heap.size (fun k_ => (P0_ k_ ∨ w.heap.size ≤ k_)) (.slice (some ⟨go5, 0, none⟩) x0_1.length co11) y129 := (by rw [hw, Ny129.out]; exact HP18.1); clear HP18; have n0_ := Aside0.mk (hp_); have n2_ := Aside0.mk ((by rw [hw]; exact below_set (HB.out) GB5.out : Below w0.heap.size w0 w19)); have n3_ := Aside0.mk (Kept.of_grown (S := (fun k_ => P0_ k_)) hg (by repeat (first | (with_reducible first | exact HK.out | apply Kept.alloc | apply Kept.drewN | apply Kept.drew) | exact HK.out)) (fun k_ e_ => ((Kd.S_R HO_0.out).1 k_ e_))); clear HO_0; clear HB; clear HK; have HO_0 := n0_; have HB := n2_; have HK := n3_; (try clear n0_); (try clear n1_); (try clear n2_); (try clear n3_); clear hg hw hp_))
 go_roundg k1
 case measure => have := HK1.out; omega
 case rel => exact ⟨(y129), (wrap64 (t127 + 1)), (wrap64 (x5_1 + 1)), (sr_), (sr_), H', ⟨by have := HK1.out; omega⟩, ⟨by (with_reducible repeat (first | apply Kd.S_alloc | apply Kd.S_drewN | apply Kd.S_drew)); exact HO_0.out⟩, ⟨by repeat (first | (with_reducible first | exact HK.out | apply Kept.alloc | apply Kept.drewN | apply Kept.drew) | exact HK.out)⟩, ⟨bl_⟩⟩

end Go.Proofs.YtdhjolglbcoijaaDoor.PA

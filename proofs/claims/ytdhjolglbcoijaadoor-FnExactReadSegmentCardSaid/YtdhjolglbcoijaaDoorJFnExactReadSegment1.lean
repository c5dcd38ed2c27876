/- Contracts of functions of the program and of the reference, and plain lemmas on what they compute: a part of the proof of the law FnExactReadSegment. No condition. -/
import Derived.Test.YtdhjolglbcoijaaDoorG88178x0
import Derived.Test.YtdhjolglbcoijaaDoorG88178x1
import Derived.Test.YtdhjolglbcoijaaDoorShortV
namespace Go.Proofs.YtdhjolglbcoijaaDoor.PA
open Go.RowKit Go.Proofs.YtdhjolglbcoijaaDoor.Short Go.Proofs.YtdhjolglbcoijaaDoorW.PrintWords Go.Proofs.YtdhjolglbcoijaaDoorW.PrintLast Go.Proofs.YtdhjolglbcoijaaDoorW.PrintMore
attribute [local go_sem] max2_int min2_int max_two min_two max_three min_three max_four min_four   -- for this text's walks alone
set_option linter.unusedVariables false
set_option linter.unusedSimpArgs false

/-! ### laws_eqItem: function 118 -/
def laws_eqItem.f (a0_0 : Int) (a0_1 : Int) (a0_2 : Int) (a0_3 : Int) (a1_0 : Int) (a1_1 : Int) (a1_2 : Int) (a1_3 : Int) : Option (Bool) := if a0_0 = a1_0 then (if a0_1 = a1_1 then (if a0_2 = a1_2 then (if a0_3 = a1_3 then (some true) else (some false)) else (some false)) else (some false)) else (some false)
set_option maxHeartbeats 8000000 in
set_option maxRecDepth 100000 in
theorem laws_eqItem.calls (a0_0 : Int) (a0_1 : Int) (a0_2 : Int) (a0_3 : Int) (a1_0 : Int) (a1_1 : Int) (a1_2 : Int) (a1_3 : Int) (r : Bool) (w : World) (h : laws_eqItem.f a0_0 a0_1 a0_2 a0_3 a1_0 a1_1 a1_2 a1_3 = some r) :
 Calls Tryd.prog 118 #[.agg #[.int .i64 a0_0, .int .i64 a0_1, .int .i64 a0_2, .int .i64 a0_3], .agg #[.int .i64 a1_0, .int .i64 a1_1, .int .i64 a1_2, .int .i64 a1_3]] w fun e w' => e = .returned (.bool r) ∧ Below w.heap.size w w' := by
 have hu68 := Tryd.underlying68
 have HB := Aside0.mk (Below.refl w.heap.size w)
 have H : (if a0_0 = a1_0 then (if a0_1 = a1_1 then (if a0_2 = a1_2 then (if a0_3 = a1_3 then (some true) else (some false)) else (some false)) else (some false)) else (some false)) = some r := h
 clear h
 by_cases c3 : a0_0 = a1_0
 rotate_left
 ·rw [if_neg c3] at H
  have c3b0 : (a0_0 == a1_0) = false := beq_eq_false_iff_ne.mpr c3
  have c3b1 : (a0_0 != a1_0) = true := bne_iff_ne.mpr c3
  obtain rfl := Option.some.inj H
  go_enter Tryd.func118, Tryd.ntmps118
  go_wp2_with (first | ((with_reducible refine gate_dst (N := 2) rfl ?_); refine bx_ 2 68 #[.int .i64 a0_0, .int .i64 a0_1, .int .i64 a0_2, .int .i64 a0_3] ?_; intro gb101 hg w27 hbox hb; have BK101 := Aside0.mk (hbox); have GW101 := Aside0.mk ((hz_ : w.heap.size ≤ gb101)); have GE101 := Aside0.mk ((hz_ : w.heap.size ≤ gb101)); replace HB := Aside0.mk (below_step bl_ hb); clear hb hbox hg) | ((with_reducible refine gate_dst (N := 3) rfl ?_); refine bx_ 3 68 #[.int .i64 a1_0, .int .i64 a1_1, .int .i64 a1_2, .int .i64 a1_3] ?_; intro gb102 hg w28 hbox hb; have BK102 := Aside0.mk (hbox); have GW102 := Aside0.mk ((hz_ : w.heap.size ≤ gb102)); have GE102 := Aside0.mk ((hz_ : w.heap.size ≤ gb102)); replace HB := Aside0.mk (below_step bl_ hb); have NB101_102 := Aside0.mk ((by rw [hg]; exact Nat.ne_of_lt (blk_lt (g := gb101) (o := .cells #[.int .i64 a0_0, .int .i64 a0_1, .int .i64 a0_2, .int .i64 a0_3] 68 (0, 0)) (bk_ BK101.out)) : gb101 ≠ gb102)); have NB102_101 := Aside0.mk ((by rw [hg]; exact Nat.ne_of_gt (blk_lt (g := gb101) (o := .cells #[.int .i64 a0_0, .int .i64 a0_1, .int .i64 a0_2, .int .i64 a0_3] 68 (0, 0)) (bk_ BK101.out)) : gb102 ≠ gb101)); replace BK101 := Aside0.mk (blk_below (bn0_ BK101.out) hb); clear hb hbox hg; have hnb29 := NB101_102.out; have hnc29 := NB102_101.out; obtain ⟨hcz30_0, hcz30_1, hcz30_2, hcz30_3, hfz30_0, hfz30_1, hfz30_2, hfz30_3⟩ := cf4_ BK101.out; obtain ⟨hcz31_0, hcz31_1, hcz31_2, hcz31_3, hfz31_0, hfz31_1, hfz31_2, hfz31_3⟩ := cf4_ BK102.out))
  go_ret
  exact ⟨er_, bl_⟩
 rw [if_pos c3] at H
 have c3b0 : (a0_0 == a1_0) = true := beq_iff_eq.mpr c3
 have c3b1 : (a0_0 != a1_0) = false := bne_eq_false_iff_eq.mpr c3
 clear c3
 by_cases c4 : a0_1 = a1_1
 rotate_left
 ·rw [if_neg c4] at H
  have c4b0 : (a0_1 == a1_1) = false := beq_eq_false_iff_ne.mpr c4
  have c4b1 : (a0_1 != a1_1) = true := bne_iff_ne.mpr c4
  obtain rfl := Option.some.inj H
  go_enter Tryd.func118, Tryd.ntmps118
  go_wp2_with (first | ((with_reducible refine gate_dst (N := 2) rfl ?_); refine bx_ 2 68 #[.int .i64 a0_0, .int .i64 a0_1, .int .i64 a0_2, .int .i64 a0_3] ?_; intro gb101 hg w22 hbox hb; have BK101 := Aside0.mk (hbox); have GW101 := Aside0.mk ((hz_ : w.heap.size ≤ gb101)); have GE101 := Aside0.mk ((hz_ : w.heap.size ≤ gb101)); replace HB := Aside0.mk (below_step bl_ hb); clear hb hbox hg) | ((with_reducible refine gate_dst (N := 3) rfl ?_); refine bx_ 3 68 #[.int .i64 a1_0, .int .i64 a1_1, .int .i64 a1_2, .int .i64 a1_3] ?_; intro gb102 hg w23 hbox hb; have BK102 := Aside0.mk (hbox); have GW102 := Aside0.mk ((hz_ : w.heap.size ≤ gb102)); have GE102 := Aside0.mk ((hz_ : w.heap.size ≤ gb102)); replace HB := Aside0.mk (below_step bl_ hb); have NB101_102 := Aside0.mk ((by rw [hg]; exact Nat.ne_of_lt (blk_lt (g := gb101) (o := .cells #[.int .i64 a0_0, .int .i64 a0_1, .int .i64 a0_2, .int .i64 a0_3] 68 (0, 0)) (bk_ BK101.out)) : gb101 ≠ gb102)); have NB102_101 := Aside0.mk ((by rw [hg]; exact Nat.ne_of_gt (blk_lt (g := gb101) (o := .cells #[.int .i64 a0_0, .int .i64 a0_1, .int .i64 a0_2, .int .i64 a0_3] 68 (0, 0)) (bk_ BK101.out)) : gb102 ≠ gb101)); replace BK101 := Aside0.mk (blk_below (bn0_ BK101.out) hb); clear hb hbox hg; have hnb24 := NB101_102.out; have hnc24 := NB102_101.out; obtain ⟨hcz25_0, hcz25_1, hcz25_2, hcz25_3, hfz25_0, hfz25_1, hfz25_2, hfz25_3⟩ := cf4_ BK101.out; obtain ⟨hcz26_0, hcz26_1, hcz26_2, hcz26_3, hfz26_0, hfz26_1, hfz26_2, hfz26_3⟩ := cf4_ BK102.out))
  go_ret
  exact ⟨er_, bl_⟩
 rw [if_pos c4] at H
 have c4b0 : (a0_1 == a1_1) = true := beq_iff_eq.mpr c4
 have c4b1 : (a0_1 != a1_1) = false := bne_eq_false_iff_eq.mpr c4
 clear c4
 by_cases c5 : a0_2 = a1_2
 rotate_left
 ·rw [if_neg c5] at H
  have c5b0 : (a0_2 == a1_2) = false := beq_eq_false_iff_ne.mpr c5
  have c5b1 : (a0_2 != a1_2) = true := bne_iff_ne.mpr c5
  obtain rfl := Option.some.inj H
  go_enter Tryd.func118, Tryd.ntmps118
  go_wp2_with (first | ((with_reducible refine gate_dst (N := 2) rfl ?_); refine bx_ 2 68 #[.int .i64 a0_0, .int .i64 a0_1, .int .i64 a0_2, .int .i64 a0_3] ?_; intro gb101 hg w17 hbox hb; have BK101 := Aside0.mk (hbox); have GW101 := Aside0.mk ((hz_ : w.heap.size ≤ gb101)); have GE101 := Aside0.mk ((hz_ : w.heap.size ≤ gb101)); replace HB := Aside0.mk (below_step bl_ hb); clear hb hbox hg) | ((with_reducible refine gate_dst (N := 3) rfl ?_); refine bx_ 3 68 #[.int .i64 a1_0, .int .i64 a1_1, .int .i64 a1_2, .int .i64 a1_3] ?_; intro gb102 hg w18 hbox hb; have BK102 := Aside0.mk (hbox); have GW102 := Aside0.mk ((hz_ : w.heap.size ≤ gb102)); have GE102 := Aside0.mk ((hz_ : w.heap.size ≤ gb102)); replace HB := Aside0.mk (below_step bl_ hb); have NB101_102 := Aside0.mk ((by rw [hg]; exact Nat.ne_of_lt (blk_lt (g := gb101) (o := .cells #[.int .i64 a0_0, .int .i64 a0_1, .int .i64 a0_2, .int .i64 a0_3] 68 (0, 0)) (bk_ BK101.out)) : gb101 ≠ gb102)); have NB102_101 := Aside0.mk ((by rw [hg]; exact Nat.ne_of_gt (blk_lt (g := gb101) (o := .cells #[.int .i64 a0_0, .int .i64 a0_1, .int .i64 a0_2, .int .i64 a0_3] 68 (0, 0)) (bk_ BK101.out)) : gb102 ≠ gb101)); replace BK101 := Aside0.mk (blk_below (bn0_ BK101.out) hb); clear hb hbox hg; have hnb19 := NB101_102.out; have hnc19 := NB102_101.out; obtain ⟨hcz20_0, hcz20_1, hcz20_2, hcz20_3, hfz20_0, hfz20_1, hfz20_2, hfz20_3⟩ := cf4_ BK101.out; obtain ⟨hcz21_0, hcz21_1, hcz21_2, hcz21_3, hfz21_0, hfz21_1, hfz21_2, hfz21_3⟩ := cf4_ BK102.out))
  go_ret
  exact ⟨er_, bl_⟩
 rw [if_pos c5] at H
 have c5b0 : (a0_2 == a1_2) = true := beq_iff_eq.mpr c5
 have c5b1 : (a0_2 != a1_2) = false := bne_eq_false_iff_eq.mpr c5
 clear c5
 by_cases c6 : a0_3 = a1_3
 rotate_left
 ·rw [if_neg c6] at H
  have c6b0 : (a0_3 == a1_3) = false := beq_eq_false_iff_ne.mpr c6
  have c6b1 : (a0_3 != a1_3) = true := bne_iff_ne.mpr c6
  obtain rfl := Option.some.inj H
  go_enter Tryd.func118, Tryd.ntmps118
  go_wp2_with (first | ((with_reducible refine gate_dst (N := 2) rfl ?_); refine bx_ 2 68 #[.int .i64 a0_0, .int .i64 a0_1, .int .i64 a0_2, .int .i64 a0_3] ?_; intro gb101 hg w12 hbox hb; have BK101 := Aside0.mk (hbox); have GW101 := Aside0.mk ((hz_ : w.heap.size ≤ gb101)); have GE101 := Aside0.mk ((hz_ : w.heap.size ≤ gb101)); replace HB := Aside0.mk (below_step bl_ hb); clear hb hbox hg) | ((with_reducible refine gate_dst (N := 3) rfl ?_); refine bx_ 3 68 #[.int .i64 a1_0, .int .i64 a1_1, .int .i64 a1_2, .int .i64 a1_3] ?_; intro gb102 hg w13 hbox hb; have BK102 := Aside0.mk (hbox); have GW102 := Aside0.mk ((hz_ : w.heap.size ≤ gb102)); have GE102 := Aside0.mk ((hz_ : w.heap.size ≤ gb102)); replace HB := Aside0.mk (below_step bl_ hb); have NB101_102 := Aside0.mk ((by rw [hg]; exact Nat.ne_of_lt (blk_lt (g := gb101) (o := .cells #[.int .i64 a0_0, .int .i64 a0_1, .int .i64 a0_2, .int .i64 a0_3] 68 (0, 0)) (bk_ BK101.out)) : gb101 ≠ gb102)); have NB102_101 := Aside0.mk ((by rw [hg]; exact Nat.ne_of_gt (blk_lt (g := gb101) (o := .cells #[.int .i64 a0_0, .int .i64 a0_1, .int .i64 a0_2, .int .i64 a0_3] 68 (0, 0)) (bk_ BK101.out)) : gb102 ≠ gb101)); replace BK101 := Aside0.mk (blk_below (bn0_ BK101.out) hb); clear hb hbox hg; have hnb14 := NB101_102.out; have hnc14 := NB102_101.out; obtain ⟨hcz15_0, hcz15_1, hcz15_2, hcz15_3, hfz15_0, hfz15_1, hfz15_2, hfz15_3⟩ := cf4_ BK101.out; obtain ⟨hcz16_0, hcz16_1, hcz16_2, hcz16_3, hfz16_0, hfz16_1, hfz16_2, hfz16_3⟩ := cf4_ BK102.out))
  go_ret
  exact ⟨er_, bl_⟩
 rw [if_pos c6] at H
 have c6b0 : (a0_3 == a1_3) = true := beq_iff_eq.mpr c6
 have c6b1 : (a0_3 != a1_3) = false := bne_eq_false_iff_eq.mpr c6
 clear c6
 obtain rfl := Option.some.inj H
 go_enter Tryd.func118, Tryd.ntmps118
 go_wp2_with (first | ((with_reducible refine gate_dst (N := 2) rfl ?_); refine bx_ 2 68 #[.int .i64 a0_0, .int .i64 a0_1, .int .i64 a0_2, .int .i64 a0_3] ?_; intro gb101 hg w7 hbox hb; have BK101 := Aside0.mk (hbox); have GW101 := Aside0.mk ((hz_ : w.heap.size ≤ gb101)); have GE101 := Aside0.mk ((hz_ : w.heap.size ≤ gb101)); replace HB := Aside0.mk (below_step bl_ hb); clear hb hbox hg) | ((with_reducible refine gate_dst (N := 3) rfl ?_); refine bx_ 3 68 #[.int .i64 a1_0, .int .i64 a1_1, .int .i64 a1_2, .int .i64 a1_3] ?_; intro gb102 hg w8 hbox hb; have BK102 := Aside0.mk (hbox); have GW102 := Aside0.mk ((hz_ : w.heap.size ≤ gb102)); have GE102 := Aside0.mk ((hz_ : w.heap.size ≤ gb102)); replace HB := Aside0.mk (below_step bl_ hb); have NB101_102 := Aside0.mk ((by rw [hg]; exact Nat.ne_of_lt (blk_lt (g := gb101) (o := .cells #[.int .i64 a0_0, .int .i64 a0_1, .int .i64 a0_2, .int .i64 a0_3] 68 (0, 0)) (bk_ BK101.out)) : gb101 ≠ gb102)); have NB102_101 := Aside0.mk ((by rw [hg]; exact Nat.ne_of_gt (blk_lt (g := gb101) (o := .cells #[.int .i64 a0_0, .int .i64 a0_1, .int .i64 a0_2, .int .i64 a0_3] 68 (0, 0)) (bk_ BK101.out)) : gb102 ≠ gb101)); replace BK101 := Aside0.mk (blk_below (bn0_ BK101.out) hb); clear hb hbox hg; have hnb9 := NB101_102.out; have hnc9 := NB102_101.out; obtain ⟨hcz10_0, hcz10_1, hcz10_2, hcz10_3, hfz10_0, hfz10_1, hfz10_2, hfz10_3⟩ := cf4_ BK101.out; obtain ⟨hcz11_0, hcz11_1, hcz11_2, hcz11_3, hfz11_0, hfz11_1, hfz11_2, hfz11_3⟩ := cf4_ BK102.out))
 go_ret
 exact ⟨er_, bl_⟩


/-! ### laws_eqEntry: function 83 -/
def laws_eqEntry.f (a0_0 : Int) (a0_1 : Int) (a0_2 : Int) (a0_3 : Int) (a0_4 : Int) (a0_5 : Int) (a1_0 : Int) (a1_1 : Int) (a1_2 : Int) (a1_3 : Int) (a1_4 : Int) (a1_5 : Int) : Option (Bool) := if a0_0 = a1_0 then (if a0_1 = a1_1 then ((laws_eqItem.f a0_2 a0_3 a0_4 a0_5 a1_2 a1_3 a1_4 a1_5).bind fun t105 => (if t105 = true then (some true) else (some false))) else (some false)) else (some false)
set_option maxHeartbeats 8000000 in
set_option maxRecDepth 100000 in
theorem laws_eqEntry.calls (a0_0 : Int) (a0_1 : Int) (a0_2 : Int) (a0_3 : Int) (a0_4 : Int) (a0_5 : Int) (a1_0 : Int) (a1_1 : Int) (a1_2 : Int) (a1_3 : Int) (a1_4 : Int) (a1_5 : Int) (r : Bool) (w : World) (h : laws_eqEntry.f a0_0 a0_1 a0_2 a0_3 a0_4 a0_5 a1_0 a1_1 a1_2 a1_3 a1_4 a1_5 = some r) :
 Calls Tryd.prog 83 #[.agg #[.int .i64 a0_0, .int .i64 a0_1, .int .i64 a0_2, .int .i64 a0_3, .int .i64 a0_4, .int .i64 a0_5], .agg #[.int .i64 a1_0, .int .i64 a1_1, .int .i64 a1_2, .int .i64 a1_3, .int .i64 a1_4, .int .i64 a1_5]] w fun e w' => e = .returned (.bool r) ∧ Below w.heap.size w w' := by
 have hu70 := Tryd.underlying70
 have hu68 := Tryd.underlying68
 have HB := Aside0.mk (Below.refl w.heap.size w)
 have H : (if a0_0 = a1_0 then (if a0_1 = a1_1 then ((laws_eqItem.f a0_2 a0_3 a0_4 a0_5 a1_2 a1_3 a1_4 a1_5).bind fun t105 => (if t105 = true then (some true) else (some false))) else (some false)) else (some false)) = some r := h
 clear h
 by_cases c3 : a0_0 = a1_0
 rotate_left
 ·rw [if_neg c3] at H
  have c3b0 : (a0_0 == a1_0) = false := beq_eq_false_iff_ne.mpr c3
  have c3b1 : (a0_0 != a1_0) = true := bne_iff_ne.mpr c3
  obtain rfl := Option.some.inj H
  go_enter Tryd.func83, Tryd.ntmps83
  go_wp2_with (first | ((with_reducible refine gate_dst (N := 2) rfl ?_); refine bx_ 2 70 #[.int .i64 a0_0, .int .i64 a0_1, .int .i64 a0_2, .int .i64 a0_3, .int .i64 a0_4, .int .i64 a0_5] ?_; intro gb103 hg w24 hbox hb; have BK103 := Aside0.mk (hbox); have GW103 := Aside0.mk ((hz_ : w.heap.size ≤ gb103)); have GE103 := Aside0.mk ((hz_ : w.heap.size ≤ gb103)); replace HB := Aside0.mk (below_step bl_ hb); clear hb hbox hg) | ((with_reducible refine gate_dst (N := 3) rfl ?_); refine bx_ 3 70 #[.int .i64 a1_0, .int .i64 a1_1, .int .i64 a1_2, .int .i64 a1_3, .int .i64 a1_4, .int .i64 a1_5] ?_; intro gb104 hg w25 hbox hb; have BK104 := Aside0.mk (hbox); have GW104 := Aside0.mk ((hz_ : w.heap.size ≤ gb104)); have GE104 := Aside0.mk ((hz_ : w.heap.size ≤ gb104)); replace HB := Aside0.mk (below_step bl_ hb); have NB103_104 := Aside0.mk ((by rw [hg]; exact Nat.ne_of_lt (blk_lt (g := gb103) (o := .cells #[.int .i64 a0_0, .int .i64 a0_1, .int .i64 a0_2, .int .i64 a0_3, .int .i64 a0_4, .int .i64 a0_5] 70 (0, 0)) (bk_ BK103.out)) : gb103 ≠ gb104)); have NB104_103 := Aside0.mk ((by rw [hg]; exact Nat.ne_of_gt (blk_lt (g := gb103) (o := .cells #[.int .i64 a0_0, .int .i64 a0_1, .int .i64 a0_2, .int .i64 a0_3, .int .i64 a0_4, .int .i64 a0_5] 70 (0, 0)) (bk_ BK103.out)) : gb104 ≠ gb103)); replace BK103 := Aside0.mk (blk_below (bn0_ BK103.out) hb); clear hb hbox hg; have hnb26 := NB103_104.out; have hnc26 := NB104_103.out; obtain ⟨hcz27_0, hcz27_1, hcz27_2, hcz27_3, hcz27_4, hcz27_5, hfz27_0, hfz27_1, hfz27_2, hfz27_3, hfz27_4, hfz27_5⟩ := cf6_ BK103.out; obtain ⟨hcz28_0, hcz28_1, hcz28_2, hcz28_3, hcz28_4, hcz28_5, hfz28_0, hfz28_1, hfz28_2, hfz28_3, hfz28_4, hfz28_5⟩ := cf6_ BK104.out))
  go_ret
  exact ⟨er_, bl_⟩
 rw [if_pos c3] at H
 have c3b0 : (a0_0 == a1_0) = true := beq_iff_eq.mpr c3
 have c3b1 : (a0_0 != a1_0) = false := bne_eq_false_iff_eq.mpr c3
 clear c3
 by_cases c4 : a0_1 = a1_1
 rotate_left
 ·rw [if_neg c4] at H
  have c4b0 : (a0_1 == a1_1) = false := beq_eq_false_iff_ne.mpr c4
  have c4b1 : (a0_1 != a1_1) = true := bne_iff_ne.mpr c4
  obtain rfl := Option.some.inj H
  go_enter Tryd.func83, Tryd.ntmps83
  go_wp2_with (first | ((with_reducible refine gate_dst (N := 2) rfl ?_); refine bx_ 2 70 #[.int .i64 a0_0, .int .i64 a0_1, .int .i64 a0_2, .int .i64 a0_3, .int .i64 a0_4, .int .i64 a0_5] ?_; intro gb103 hg w19 hbox hb; have BK103 := Aside0.mk (hbox); have GW103 := Aside0.mk ((hz_ : w.heap.size ≤ gb103)); have GE103 := Aside0.mk ((hz_ : w.heap.size ≤ gb103)); replace HB := Aside0.mk (below_step bl_ hb); clear hb hbox hg) | ((with_reducible refine gate_dst (N := 3) rfl ?_); refine bx_ 3 70 #[.int .i64 a1_0, .int .i64 a1_1, .int .i64 a1_2, .int .i64 a1_3, .int .i64 a1_4, .int .i64 a1_5] ?_; intro gb104 hg w20 hbox hb; have BK104 := Aside0.mk (hbox); have GW104 := Aside0.mk ((hz_ : w.heap.size ≤ gb104)); have GE104 := Aside0.mk ((hz_ : w.heap.size ≤ gb104)); replace HB := Aside0.mk (below_step bl_ hb); have NB103_104 := Aside0.mk ((by rw [hg]; exact Nat.ne_of_lt (blk_lt (g := gb103) (o := .cells #[.int .i64 a0_0, .int .i64 a0_1, .int .i64 a0_2, .int .i64 a0_3, .int .i64 a0_4, .int .i64 a0_5] 70 (0, 0)) (bk_ BK103.out)) : gb103 ≠ gb104)); have NB104_103 := Aside0.mk ((by rw [hg]; exact Nat.ne_of_gt (blk_lt (g := gb103) (o := .cells #[.int .i64 a0_0, .int .i64 a0_1, .int .i64 a0_2, .int .i64 a0_3, .int .i64 a0_4, .int .i64 a0_5] 70 (0, 0)) (bk_ BK103.out)) : gb104 ≠ gb103)); replace BK103 := Aside0.mk (blk_below (bn0_ BK103.out) hb); clear hb hbox hg; have hnb21 := NB103_104.out; have hnc21 := NB104_103.out; obtain ⟨hcz22_0, hcz22_1, hcz22_2, hcz22_3, hcz22_4, hcz22_5, hfz22_0, hfz22_1, hfz22_2, hfz22_3, hfz22_4, hfz22_5⟩ := cf6_ BK103.out; obtain ⟨hcz23_0, hcz23_1, hcz23_2, hcz23_3, hcz23_4, hcz23_5, hfz23_0, hfz23_1, hfz23_2, hfz23_3, hfz23_4, hfz23_5⟩ := cf6_ BK104.out))
  go_ret
  exact ⟨er_, bl_⟩
 rw [if_pos c4] at H
 have c4b0 : (a0_1 == a1_1) = true := beq_iff_eq.mpr c4
 have c4b1 : (a0_1 != a1_1) = false := bne_eq_false_iff_eq.mpr c4
 clear c4
 replace H := bs_ H
 obtain ⟨t105, A5, H⟩ := H
 try dsimp only at H
 by_cases c6 : t105 = true
 ·subst c6
  rw [if_pos rfl] at H
  obtain rfl := Option.some.inj H
  go_enter Tryd.func83, Tryd.ntmps83
  go_wp2_with (first | ((with_reducible refine gate_dst (N := 2) rfl ?_); refine bx_ 2 70 #[.int .i64 a0_0, .int .i64 a0_1, .int .i64 a0_2, .int .i64 a0_3, .int .i64 a0_4, .int .i64 a0_5] ?_; intro gb103 hg w7 hbox hb; have BK103 := Aside0.mk (hbox); have GW103 := Aside0.mk ((hz_ : w.heap.size ≤ gb103)); have GE103 := Aside0.mk ((hz_ : w.heap.size ≤ gb103)); replace HB := Aside0.mk (below_step bl_ hb); clear hb hbox hg) | ((with_reducible refine gate_dst (N := 3) rfl ?_); refine bx_ 3 70 #[.int .i64 a1_0, .int .i64 a1_1, .int .i64 a1_2, .int .i64 a1_3, .int .i64 a1_4, .int .i64 a1_5] ?_; intro gb104 hg w8 hbox hb; have BK104 := Aside0.mk (hbox); have GW104 := Aside0.mk ((hz_ : w.heap.size ≤ gb104)); have GE104 := Aside0.mk ((hz_ : w.heap.size ≤ gb104)); replace HB := Aside0.mk (below_step bl_ hb); have NB103_104 := Aside0.mk ((by rw [hg]; exact Nat.ne_of_lt (blk_lt (g := gb103) (o := .cells #[.int .i64 a0_0, .int .i64 a0_1, .int .i64 a0_2, .int .i64 a0_3, .int .i64 a0_4, .int .i64 a0_5] 70 (0, 0)) (bk_ BK103.out)) : gb103 ≠ gb104)); have NB104_103 := Aside0.mk ((by rw [hg]; exact Nat.ne_of_gt (blk_lt (g := gb103) (o := .cells #[.int .i64 a0_0, .int .i64 a0_1, .int .i64 a0_2, .int .i64 a0_3, .int .i64 a0_4, .int .i64 a0_5] 70 (0, 0)) (bk_ BK103.out)) : gb104 ≠ gb103)); replace BK103 := Aside0.mk (blk_below (bn0_ BK103.out) hb); clear hb hbox hg; have hnb9 := NB103_104.out; have hnc9 := NB104_103.out; obtain ⟨hcz10_0, hcz10_1, hcz10_2, hcz10_3, hcz10_4, hcz10_5, hfz10_0, hfz10_1, hfz10_2, hfz10_3, hfz10_4, hfz10_5⟩ := cf6_ BK103.out; obtain ⟨hcz11_0, hcz11_1, hcz11_2, hcz11_3, hcz11_4, hcz11_5, hfz11_0, hfz11_1, hfz11_2, hfz11_3, hfz11_4, hfz11_5⟩ := cf6_ BK104.out) | ((with_reducible refine gate_callee (f := 118) rfl ?_); refine gs_ (some 19) Tryd.func118 #[.agg #[.int .i64 a0_2, .int .i64 a0_3, .int .i64 a0_4, .int .i64 a0_5], .agg #[.int .i64 a1_2, .int .i64 a1_3, .int .i64 a1_4, .int .i64 a1_5]] ?_; (with_reducible refine (laws_eqItem.calls a0_2 a0_3 a0_4 a0_5 a1_2 a1_3 a1_4 a1_5 true _ A5.out).mono ?_); rintro e w12 ⟨rfl, hb⟩; refine ⟨_, rfl, ?_⟩; replace BK103 := Aside0.mk (blk_below (bn0_ BK103.out) hb); replace BK104 := Aside0.mk (blk_below (bn0_ BK104.out) hb); replace HB := Aside0.mk (below_step bl_ hb); (try clear hb)))
  go_ret
  exact ⟨er_, bl_⟩
 replace c6 := Bool.eq_false_iff.mpr c6
 subst c6
 rw [if_neg (show ¬ (false = true) by decide)] at H
 obtain rfl := Option.some.inj H
 go_enter Tryd.func83, Tryd.ntmps83
 go_wp2_with (first | ((with_reducible refine gate_dst (N := 2) rfl ?_); refine bx_ 2 70 #[.int .i64 a0_0, .int .i64 a0_1, .int .i64 a0_2, .int .i64 a0_3, .int .i64 a0_4, .int .i64 a0_5] ?_; intro gb103 hg w13 hbox hb; have BK103 := Aside0.mk (hbox); have GW103 := Aside0.mk ((hz_ : w.heap.size ≤ gb103)); have GE103 := Aside0.mk ((hz_ : w.heap.size ≤ gb103)); replace HB := Aside0.mk (below_step bl_ hb); clear hb hbox hg) | ((with_reducible refine gate_dst (N := 3) rfl ?_); refine bx_ 3 70 #[.int .i64 a1_0, .int .i64 a1_1, .int .i64 a1_2, .int .i64 a1_3, .int .i64 a1_4, .int .i64 a1_5] ?_; intro gb104 hg w14 hbox hb; have BK104 := Aside0.mk (hbox); have GW104 := Aside0.mk ((hz_ : w.heap.size ≤ gb104)); have GE104 := Aside0.mk ((hz_ : w.heap.size ≤ gb104)); replace HB := Aside0.mk (below_step bl_ hb); have NB103_104 := Aside0.mk ((by rw [hg]; exact Nat.ne_of_lt (blk_lt (g := gb103) (o := .cells #[.int .i64 a0_0, .int .i64 a0_1, .int .i64 a0_2, .int .i64 a0_3, .int .i64 a0_4, .int .i64 a0_5] 70 (0, 0)) (bk_ BK103.out)) : gb103 ≠ gb104)); have NB104_103 := Aside0.mk ((by rw [hg]; exact Nat.ne_of_gt (blk_lt (g := gb103) (o := .cells #[.int .i64 a0_0, .int .i64 a0_1, .int .i64 a0_2, .int .i64 a0_3, .int .i64 a0_4, .int .i64 a0_5] 70 (0, 0)) (bk_ BK103.out)) : gb104 ≠ gb103)); replace BK103 := Aside0.mk (blk_below (bn0_ BK103.out) hb); clear hb hbox hg; have hnb15 := NB103_104.out; have hnc15 := NB104_103.out; obtain ⟨hcz16_0, hcz16_1, hcz16_2, hcz16_3, hcz16_4, hcz16_5, hfz16_0, hfz16_1, hfz16_2, hfz16_3, hfz16_4, hfz16_5⟩ := cf6_ BK103.out; obtain ⟨hcz17_0, hcz17_1, hcz17_2, hcz17_3, hcz17_4, hcz17_5, hfz17_0, hfz17_1, hfz17_2, hfz17_3, hfz17_4, hfz17_5⟩ := cf6_ BK104.out) | ((with_reducible refine gate_callee (f := 118) rfl ?_); refine gs_ (some 19) Tryd.func118 #[.agg #[.int .i64 a0_2, .int .i64 a0_3, .int .i64 a0_4, .int .i64 a0_5], .agg #[.int .i64 a1_2, .int .i64 a1_3, .int .i64 a1_4, .int .i64 a1_5]] ?_; (with_reducible refine (laws_eqItem.calls a0_2 a0_3 a0_4 a0_5 a1_2 a1_3 a1_4 a1_5 false _ A5.out).mono ?_); rintro e w18 ⟨rfl, hb⟩; refine ⟨_, rfl, ?_⟩; replace BK103 := Aside0.mk (blk_below (bn0_ BK103.out) hb); replace BK104 := Aside0.mk (blk_below (bn0_ BK104.out) hb); replace HB := Aside0.mk (below_step bl_ hb); (try clear hb)))
 go_ret
 exact ⟨er_, bl_⟩


/-! ### laws_eqEntryS: function 29 -/
def laws_eqEntryS.l0 : Nat → List (S70) → List (S70) → Int → Option (Bool)
 | 0, _, _, _ => none
 | k + 1, x0, x1, x5 => if x5 < (x0.length : Int) then (if 0 ≤ x5 then (if x5 < (x1.length : Int) then ((laws_eqEntry.f ((rd_T70 x0 x5).f0) ((rd_T70 x0 x5).f1) ((rd_T70 x0 x5).f2.f0) ((rd_T70 x0 x5).f2.f1) ((rd_T70 x0 x5).f2.f2) ((rd_T70 x0 x5).f2.f3) ((rd_T70 x1 x5).f0) ((rd_T70 x1 x5).f1) ((rd_T70 x1 x5).f2.f0) ((rd_T70 x1 x5).f2.f1) ((rd_T70 x1 x5).f2.f2) ((rd_T70 x1 x5).f2.f3)).bind fun t108 => (if t108 = true then (laws_eqEntryS.l0 k x0 x1 (wrap64 (x5 + 1))) else (some false))) else (none)) else (none)) else (some true)
def laws_eqEntryS.f (k : Nat) (l0 : List (S70)) (l1 : List (S70)) : Option (Bool) := if (l0.length : Int) = (l1.length : Int) then (laws_eqEntryS.l0 k l0 l1 0) else (some false)
theorem laws_eqEntryS.mono_l : ∀ k, (∀ y0 y1 y2, LeO (laws_eqEntryS.l0 k y0 y1 y2) (laws_eqEntryS.l0 (k + 1) y0 y1 y2))
 | 0 => fun _ _ _ r h => by simp [laws_eqEntryS.l0] at h
 | k + 1 => by
  have ih0 := laws_eqEntryS.mono_l k
  ·intro y0 y1 y2
   unfold laws_eqEntryS.l0
   exact mo_
theorem laws_eqEntryS.mono : ∀ a0 a1 k, LeO (laws_eqEntryS.f k a0 a1) (laws_eqEntryS.f (k + 1) a0 a1) := by
 intro a0 a1 k
 have ih0 := laws_eqEntryS.mono_l k
 unfold laws_eqEntryS.f
 exact mo_
def laws_eqEntryS.T6 : Bool × List (List Nat × List Nat) := (true, [([], []), ([], []), ([0, 1], [0, 1]), ([2], [2]), ([], []), ([], []), ([4, 5], [4, 5]), ([6], [6]), ([3, 7], [3, 7]), ([8], [8])])
def laws_eqEntryS.B6 : List Nat := [0, 0, 3, 7, 0, 0, 48, 112, 255, 511]
theorem laws_eqEntryS.tab6 : rtab .any (opsOf Tryd.f29 6) = laws_eqEntryS.T6 := by kernel_rfl
theorem laws_eqEntryS.bits6 : waitsOk laws_eqEntryS.T6.2 laws_eqEntryS.B6 = true := by kernel_rfl
set_option maxHeartbeats 8000000 in
set_option maxRecDepth 100000 in
theorem laws_eqEntryS.calls (k : Nat) (A0 : Option Addr) (c0 : Nat) (l0 : List (S70)) (A1 : Option Addr) (c1 : Nat) (l1 : List (S70)) (r : Bool) (w : World) (hr0 : Kd.C k70 w A0 l0.length l0) (hc0 : l0.length ≤ c0) (hr1 : Kd.C k70 w A1 l1.length l1) (hc1 : l1.length ≤ c1) (h : laws_eqEntryS.f k l0 l1 = some r) :
 Calls Tryd.prog 29 #[.slice A0 l0.length c0, .slice A1 l1.length c1] w fun e w' => e = .returned (.bool r) ∧ Below w.heap.size w w' := by
 have hu70 := Tryd.underlying70
 have HR0 := Aside0.mk hr0
 have HC0 := Aside0.mk hc0
 clear hr0 hc0
 have HR1 := Aside0.mk hr1
 have HC1 := Aside0.mk hc1
 clear hr1 hc1
 have HB := Aside0.mk (Below.refl w.heap.size w)
 have H : (if (l0.length : Int) = (l1.length : Int) then (laws_eqEntryS.l0 k l0 l1 0) else (some false)) = some r := h
 clear h
 by_cases c3 : (l0.length : Int) = (l1.length : Int)
 rotate_left
 ·rw [if_neg c3] at H
  have c3b0 : ((l0.length : Int) == (l1.length : Int)) = false := beq_eq_false_iff_ne.mpr c3
  have c3b1 : ((l0.length : Int) != (l1.length : Int)) = true := bne_iff_ne.mpr c3
  have c3b2 : (l0.length == l1.length) = false := by first | simpa using c3 | (simp at c3 ⊢; omega)
  obtain rfl := Option.some.inj H
  go_enter Tryd.func29, Tryd.ntmps29
  go_wp2
  go_ret
  exact ⟨er_, bl_⟩
 rw [if_pos c3] at H
 have c3b0 : ((l0.length : Int) == (l1.length : Int)) = true := beq_iff_eq.mpr c3
 have c3b1 : ((l0.length : Int) != (l1.length : Int)) = false := bne_eq_false_iff_eq.mpr c3
 have c3b2 : (l0.length == l1.length) = true := by first | simpa using c3 | (simp at c3 ⊢; omega)
 clear c3
 have H' := Aside0.mk H
 clear H
 go_enter Tryd.func29, Tryd.ntmps29
 go_wp2
 go_loopg [5] k (fun kq v5 w' => ∃ (x5_1 : Int), v5 = .int .i64 x5_1 ∧ Aside0 (laws_eqEntryS.l0 kq l0 l1 x5_1 = some r) ∧ Aside0 (kq ≤ k) ∧ Aside0 (Below w.heap.size w w'))
 case atStart => exact ⟨(0), (sr_), H', ⟨Nat.le_refl _⟩, ⟨bl_⟩⟩
 clear H'
 try clear c1
 try clear c3
 try clear c3b0
 try clear c3b1
 try clear c3b2
 obtain ⟨x5_1, rfl, HA, HK1, HB⟩ := hrel
 cases gk with
 | zero => exact absurd HA.out (by simp [laws_eqEntryS.l0])
 | succ k1 => ?_
 have H := HA.out
 clear HA
 simp only [laws_eqEntryS.l0] at H
 by_cases c4 : x5_1 < (l0.length : Int)
 rotate_left
 ·rw [if_neg c4] at H
  have c4b0 := decide_eq_false c4
  clear c4
  obtain rfl := Option.some.inj H
  go_wp2
  go_ret
  exact ⟨er_, bl_⟩
 rw [if_pos c4] at H
 have c4b0 := decide_eq_true c4
 clear c4
 by_cases c5 : 0 ≤ x5_1
 rotate_left
 ·exact nn_ c5 H
 rw [if_pos c5] at H
 have c5b0 := decide_eq_true c5
 clear c5
 by_cases c6 : x5_1 < (l1.length : Int)
 rotate_left
 ·exact nn_ c6 H
 rw [if_pos c6] at H
 have c6b0 := decide_eq_true c6
 clear c6
 replace H := bs_ H
 obtain ⟨t108, A7, H⟩ := H
 try dsimp only at H
 by_cases c8 : t108 = true
 rotate_left
 ·replace c8 := Bool.eq_false_iff.mpr c8
  subst c8
  rw [if_neg (show ¬ (false = true) by decide)] at H
  obtain rfl := Option.some.inj H
  try go_wp2
  have n0_ := Aside0.mk (below_drew1 HB.out)
  clear HB
  have HB := n0_
  clear n0_
  have p106 : 0 ≤ (x5_1 : Int) := of_decide_eq_true as_
  have q106 : x5_1 < (l0.length : Int) := of_decide_eq_true as_
  obtain ⟨ad106, e106, hx106_0, hx106_1, hx106_2, hx106_3, hx106_4, hx106_5⟩ := at_T70 HR0.out x5_1 p106 q106
  have hw106_5 := hx106_5
  have hw106_4 := hx106_4
  have hw106_3 := hx106_3
  have hw106_2 := hx106_2
  have hw106_1 := hx106_1
  have hw106_0 := hx106_0
  cases e106
  replace hx106_0 := (HB.out.cell (World.block_lt_of_cell? w _ hx106_0)).trans hx106_0
  replace hx106_1 := (HB.out.cell (World.block_lt_of_cell? w _ hx106_1)).trans hx106_1
  replace hx106_2 := (HB.out.cell (World.block_lt_of_cell? w _ hx106_2)).trans hx106_2
  replace hx106_3 := (HB.out.cell (World.block_lt_of_cell? w _ hx106_3)).trans hx106_3
  replace hx106_4 := (HB.out.cell (World.block_lt_of_cell? w _ hx106_4)).trans hx106_4
  replace hx106_5 := (HB.out.cell (World.block_lt_of_cell? w _ hx106_5)).trans hx106_5
  replace p106 := eq_true p106
  replace q106 := eq_true q106
  have p107 : 0 ≤ (x5_1 : Int) := of_decide_eq_true as_
  have q107 : x5_1 < (l1.length : Int) := of_decide_eq_true as_
  obtain ⟨ad107, e107, hx107_0, hx107_1, hx107_2, hx107_3, hx107_4, hx107_5⟩ := at_T70 HR1.out x5_1 p107 q107
  have hw107_5 := hx107_5
  have hw107_4 := hx107_4
  have hw107_3 := hx107_3
  have hw107_2 := hx107_2
  have hw107_1 := hx107_1
  have hw107_0 := hx107_0
  cases e107
  replace hx107_0 := (HB.out.cell (World.block_lt_of_cell? w _ hx107_0)).trans hx107_0
  replace hx107_1 := (HB.out.cell (World.block_lt_of_cell? w _ hx107_1)).trans hx107_1
  replace hx107_2 := (HB.out.cell (World.block_lt_of_cell? w _ hx107_2)).trans hx107_2
  replace hx107_3 := (HB.out.cell (World.block_lt_of_cell? w _ hx107_3)).trans hx107_3
  replace hx107_4 := (HB.out.cell (World.block_lt_of_cell? w _ hx107_4)).trans hx107_4
  replace hx107_5 := (HB.out.cell (World.block_lt_of_cell? w _ hx107_5)).trans hx107_5
  replace p107 := eq_true p107
  replace q107 := eq_true q107
  refine start_ (n := 10) (S := fun w' => w'.cell? (ad106.add ((x5_1).toNat * 6)) = some (.int .i64 ((rd_T70 l0 x5_1).f0)) ∧ w'.cell? ⟨(ad106.add ((x5_1).toNat * 6)).block, (ad106.add ((x5_1).toNat * 6)).off + 1, none⟩ = some (.int .i64 ((rd_T70 l0 x5_1).f1)) ∧ w'.cell? ⟨(ad106.add ((x5_1).toNat * 6)).block, (ad106.add ((x5_1).toNat * 6)).off + 2, none⟩ = some (.int .i64 ((rd_T70 l0 x5_1).f2.f0)) ∧ w'.cell? ⟨(ad106.add ((x5_1).toNat * 6)).block, (ad106.add ((x5_1).toNat * 6)).off + 3, none⟩ = some (.int .i64 ((rd_T70 l0 x5_1).f2.f1)) ∧ w'.cell? ⟨(ad106.add ((x5_1).toNat * 6)).block, (ad106.add ((x5_1).toNat * 6)).off + 4, none⟩ = some (.int .i64 ((rd_T70 l0 x5_1).f2.f2)) ∧ w'.cell? ⟨(ad106.add ((x5_1).toNat * 6)).block, (ad106.add ((x5_1).toNat * 6)).off + 5, none⟩ = some (.int .i64 ((rd_T70 l0 x5_1).f2.f3)) ∧ w'.cell? (ad107.add ((x5_1).toNat * 6)) = some (.int .i64 ((rd_T70 l1 x5_1).f0)) ∧ w'.cell? ⟨(ad107.add ((x5_1).toNat * 6)).block, (ad107.add ((x5_1).toNat * 6)).off + 1, none⟩ = some (.int .i64 ((rd_T70 l1 x5_1).f1)) ∧ w'.cell? ⟨(ad107.add ((x5_1).toNat * 6)).block, (ad107.add ((x5_1).toNat * 6)).off + 2, none⟩ = some (.int .i64 ((rd_T70 l1 x5_1).f2.f0)) ∧ w'.cell? ⟨(ad107.add ((x5_1).toNat * 6)).block, (ad107.add ((x5_1).toNat * 6)).off + 3, none⟩ = some (.int .i64 ((rd_T70 l1 x5_1).f2.f1)) ∧ w'.cell? ⟨(ad107.add ((x5_1).toNat * 6)).block, (ad107.add ((x5_1).toNat * 6)).off + 4, none⟩ = some (.int .i64 ((rd_T70 l1 x5_1).f2.f2)) ∧ w'.cell? ⟨(ad107.add ((x5_1).toNat * 6)).block, (ad107.add ((x5_1).toNat * 6)).off + 5, none⟩ = some (.int .i64 ((rd_T70 l1 x5_1).f2.f3))) (ds := []) #[false, false, false, false, false, false, false, false, false, false] (by kernel_rfl) rfl rfl ⟨((HB.out.cell (World.block_lt_of_cell? w _ hw106_0)).trans hw106_0), ((HB.out.cell (World.block_lt_of_cell? w _ hw106_1)).trans hw106_1), ((HB.out.cell (World.block_lt_of_cell? w _ hw106_2)).trans hw106_2), ((HB.out.cell (World.block_lt_of_cell? w _ hw106_3)).trans hw106_3), ((HB.out.cell (World.block_lt_of_cell? w _ hw106_4)).trans hw106_4), ((HB.out.cell (World.block_lt_of_cell? w _ hw106_5)).trans hw106_5), ((HB.out.cell (World.block_lt_of_cell? w _ hw107_0)).trans hw107_0), ((HB.out.cell (World.block_lt_of_cell? w _ hw107_1)).trans hw107_1), ((HB.out.cell (World.block_lt_of_cell? w _ hw107_2)).trans hw107_2), ((HB.out.cell (World.block_lt_of_cell? w _ hw107_3)).trans hw107_3), ((HB.out.cell (World.block_lt_of_cell? w _ hw107_4)).trans hw107_4), ((HB.out.cell (World.block_lt_of_cell? w _ hw107_5)).trans hw107_5)⟩ (fun hHeld => ?_); refine with_tabW laws_eqEntryS.tab6 laws_eqEntryS.bits6 (fun HT_ HW_ => ?_)
  generalize wr.drew = w11 at HB hx106_0 hx106_1 hx106_2 hx106_3 hx106_4 hx106_5 hx107_0 hx107_1 hx107_2 hx107_3 hx107_4 hx107_5 hHeld ⊢
  refine pu_ 0 17 HT_ ?_
  refine pu_ 1 18 HT_ ?_
  refine pu_ 2 19 HT_ ?_
  refine pu_ 4 21 HT_ ?_
  refine pu_ 5 22 HT_ ?_
  refine pu_ 6 23 HT_ ?_
  refine ta_ 3 20 HT_ HW_ hHeld ?_ (r := by rintro w' ⟨s0, s1, s2, s3, s4, s5, s6, s7, s8, s9, s10, s11⟩; go_simp; with_reducible rfl)
  refine ta_ 7 24 HT_ HW_ hHeld ?_ (r := by rintro w' ⟨s0, s1, s2, s3, s4, s5, s6, s7, s8, s9, s10, s11⟩; go_simp; with_reducible rfl)
  refine one_ (i := 8) (N := some 25) #[true, true, true, true, true, true, true, true, true, false] rfl rfl (one_of HT_.out (by kernel_rfl)) (by decide) (fun K hK => ?_)
  refine goes_ Tryd.func83 (by kernel_rfl) rfl #[.agg #[.int .i64 ((rd_T70 l0 x5_1).f0), .int .i64 ((rd_T70 l0 x5_1).f1), .int .i64 ((rd_T70 l0 x5_1).f2.f0), .int .i64 ((rd_T70 l0 x5_1).f2.f1), .int .i64 ((rd_T70 l0 x5_1).f2.f2), .int .i64 ((rd_T70 l0 x5_1).f2.f3)], .agg #[.int .i64 ((rd_T70 l1 x5_1).f0), .int .i64 ((rd_T70 l1 x5_1).f1), .int .i64 ((rd_T70 l1 x5_1).f2.f0), .int .i64 ((rd_T70 l1 x5_1).f2.f1), .int .i64 ((rd_T70 l1 x5_1).f2.f2), .int .i64 ((rd_T70 l1 x5_1).f2.f3)]] (by rfl) rfl rfl lm_ ?_
  with_reducible refine (laws_eqEntry.calls ((rd_T70 l0 x5_1).f0) ((rd_T70 l0 x5_1).f1) ((rd_T70 l0 x5_1).f2.f0) ((rd_T70 l0 x5_1).f2.f1) ((rd_T70 l0 x5_1).f2.f2) ((rd_T70 l0 x5_1).f2.f3) ((rd_T70 l1 x5_1).f0) ((rd_T70 l1 x5_1).f1) ((rd_T70 l1 x5_1).f2.f0) ((rd_T70 l1 x5_1).f2.f1) ((rd_T70 l1 x5_1).f2.f2) ((rd_T70 l1 x5_1).f2.f3) false _ A7.out).mono ?_
  rintro e w12 ⟨rfl, hb⟩
  refine ⟨_, rfl, ?_⟩
  have n0_ := Aside0.mk (below_step bl_ hb)
  clear HB
  have HB := n0_
  clear n0_
  (try clear hb)
  (try clear hb2)
  (try clear hk)
  (try clear hi)
  refine hK.out _ _ ⟨((HB.out.cell (World.block_lt_of_cell? w _ hw106_0)).trans hw106_0), ((HB.out.cell (World.block_lt_of_cell? w _ hw106_1)).trans hw106_1), ((HB.out.cell (World.block_lt_of_cell? w _ hw106_2)).trans hw106_2), ((HB.out.cell (World.block_lt_of_cell? w _ hw106_3)).trans hw106_3), ((HB.out.cell (World.block_lt_of_cell? w _ hw106_4)).trans hw106_4), ((HB.out.cell (World.block_lt_of_cell? w _ hw106_5)).trans hw106_5), ((HB.out.cell (World.block_lt_of_cell? w _ hw107_0)).trans hw107_0), ((HB.out.cell (World.block_lt_of_cell? w _ hw107_1)).trans hw107_1), ((HB.out.cell (World.block_lt_of_cell? w _ hw107_2)).trans hw107_2), ((HB.out.cell (World.block_lt_of_cell? w _ hw107_3)).trans hw107_3), ((HB.out.cell (World.block_lt_of_cell? w _ hw107_4)).trans hw107_4), ((HB.out.cell (World.block_lt_of_cell? w _ hw107_5)).trans hw107_5)⟩ (fun hHeld => ?_)
  clear hK K
  refine norm_ (a' := ?_) ?_ ?_
  rotate_left
  ·show Act.put _ (some 25) _ = _
   simp only [Act.put, List.setIfInBounds_toArray, List.set_cons_zero, List.set_cons_succ, i64_w, i32_w]
   rfl
  refine pu_ 9 26 HT_ ?_
  refine done_ (done_of HT_.out (by kernel_rfl)) ?_
  try go_wp2
  go_ret
  exact ⟨er_, bl_⟩
 subst c8
 rw [if_pos rfl] at H
 have H' := Aside0.mk H
 clear H
 try go_wp2
 have n0_ := Aside0.mk (below_drew1 HB.out)
 clear HB
 have HB := n0_
 clear n0_
 have p106 : 0 ≤ (x5_1 : Int) := of_decide_eq_true as_
 have q106 : x5_1 < (l0.length : Int) := of_decide_eq_true as_
 obtain ⟨ad106, e106, hx106_0, hx106_1, hx106_2, hx106_3, hx106_4, hx106_5⟩ := at_T70 HR0.out x5_1 p106 q106
 have hw106_5 := hx106_5
 have hw106_4 := hx106_4
 have hw106_3 := hx106_3
 have hw106_2 := hx106_2
 have hw106_1 := hx106_1
 have hw106_0 := hx106_0
 cases e106
 replace hx106_0 := (HB.out.cell (World.block_lt_of_cell? w _ hx106_0)).trans hx106_0
 replace hx106_1 := (HB.out.cell (World.block_lt_of_cell? w _ hx106_1)).trans hx106_1
 replace hx106_2 := (HB.out.cell (World.block_lt_of_cell? w _ hx106_2)).trans hx106_2
 replace hx106_3 := (HB.out.cell (World.block_lt_of_cell? w _ hx106_3)).trans hx106_3
 replace hx106_4 := (HB.out.cell (World.block_lt_of_cell? w _ hx106_4)).trans hx106_4
 replace hx106_5 := (HB.out.cell (World.block_lt_of_cell? w _ hx106_5)).trans hx106_5
 replace p106 := eq_true p106
 replace q106 := eq_true q106
 have p107 : 0 ≤ (x5_1 : Int) := of_decide_eq_true as_
 have q107 : x5_1 < (l1.length : Int) := of_decide_eq_true as_
 obtain ⟨ad107, e107, hx107_0, hx107_1, hx107_2, hx107_3, hx107_4, hx107_5⟩ := at_T70 HR1.out x5_1 p107 q107
 have hw107_5 := hx107_5
 have hw107_4 := hx107_4
 have hw107_3 := hx107_3
 have hw107_2 := hx107_2
 have hw107_1 := hx107_1
 have hw107_0 := hx107_0
 cases e107
 replace hx107_0 := (HB.out.cell (World.block_lt_of_cell? w _ hx107_0)).trans hx107_0
 replace hx107_1 := (HB.out.cell (World.block_lt_of_cell? w _ hx107_1)).trans hx107_1
 replace hx107_2 := (HB.out.cell (World.block_lt_of_cell? w _ hx107_2)).trans hx107_2
 replace hx107_3 := (HB.out.cell (World.block_lt_of_cell? w _ hx107_3)).trans hx107_3
 replace hx107_4 := (HB.out.cell (World.block_lt_of_cell? w _ hx107_4)).trans hx107_4
 replace hx107_5 := (HB.out.cell (World.block_lt_of_cell? w _ hx107_5)).trans hx107_5
 replace p107 := eq_true p107
 replace q107 := eq_true q107
 refine start_ (n := 10) (S := fun w' => w'.cell? (ad106.add ((x5_1).toNat * 6)) = some (.int .i64 ((rd_T70 l0 x5_1).f0)) ∧ w'.cell? ⟨(ad106.add ((x5_1).toNat * 6)).block, (ad106.add ((x5_1).toNat * 6)).off + 1, none⟩ = some (.int .i64 ((rd_T70 l0 x5_1).f1)) ∧ w'.cell? ⟨(ad106.add ((x5_1).toNat * 6)).block, (ad106.add ((x5_1).toNat * 6)).off + 2, none⟩ = some (.int .i64 ((rd_T70 l0 x5_1).f2.f0)) ∧ w'.cell? ⟨(ad106.add ((x5_1).toNat * 6)).block, (ad106.add ((x5_1).toNat * 6)).off + 3, none⟩ = some (.int .i64 ((rd_T70 l0 x5_1).f2.f1)) ∧ w'.cell? ⟨(ad106.add ((x5_1).toNat * 6)).block, (ad106.add ((x5_1).toNat * 6)).off + 4, none⟩ = some (.int .i64 ((rd_T70 l0 x5_1).f2.f2)) ∧ w'.cell? ⟨(ad106.add ((x5_1).toNat * 6)).block, (ad106.add ((x5_1).toNat * 6)).off + 5, none⟩ = some (.int .i64 ((rd_T70 l0 x5_1).f2.f3)) ∧ w'.cell? (ad107.add ((x5_1).toNat * 6)) = some (.int .i64 ((rd_T70 l1 x5_1).f0)) ∧ w'.cell? ⟨(ad107.add ((x5_1).toNat * 6)).block, (ad107.add ((x5_1).toNat * 6)).off + 1, none⟩ = some (.int .i64 ((rd_T70 l1 x5_1).f1)) ∧ w'.cell? ⟨(ad107.add ((x5_1).toNat * 6)).block, (ad107.add ((x5_1).toNat * 6)).off + 2, none⟩ = some (.int .i64 ((rd_T70 l1 x5_1).f2.f0)) ∧ w'.cell? ⟨(ad107.add ((x5_1).toNat * 6)).block, (ad107.add ((x5_1).toNat * 6)).off + 3, none⟩ = some (.int .i64 ((rd_T70 l1 x5_1).f2.f1)) ∧ w'.cell? ⟨(ad107.add ((x5_1).toNat * 6)).block, (ad107.add ((x5_1).toNat * 6)).off + 4, none⟩ = some (.int .i64 ((rd_T70 l1 x5_1).f2.f2)) ∧ w'.cell? ⟨(ad107.add ((x5_1).toNat * 6)).block, (ad107.add ((x5_1).toNat * 6)).off + 5, none⟩ = some (.int .i64 ((rd_T70 l1 x5_1).f2.f3))) (ds := []) #[false, false, false, false, false, false, false, false, false, false] (by kernel_rfl) rfl rfl ⟨((HB.out.cell (World.block_lt_of_cell? w _ hw106_0)).trans hw106_0), ((HB.out.cell (World.block_lt_of_cell? w _ hw106_1)).trans hw106_1), ((HB.out.cell (World.block_lt_of_cell? w _ hw106_2)).trans hw106_2), ((HB.out.cell (World.block_lt_of_cell? w _ hw106_3)).trans hw106_3), ((HB.out.cell (World.block_lt_of_cell? w _ hw106_4)).trans hw106_4), ((HB.out.cell (World.block_lt_of_cell? w _ hw106_5)).trans hw106_5), ((HB.out.cell (World.block_lt_of_cell? w _ hw107_0)).trans hw107_0), ((HB.out.cell (World.block_lt_of_cell? w _ hw107_1)).trans hw107_1), ((HB.out.cell (World.block_lt_of_cell? w _ hw107_2)).trans hw107_2), ((HB.out.cell (World.block_lt_of_cell? w _ hw107_3)).trans hw107_3), ((HB.out.cell (World.block_lt_of_cell? w _ hw107_4)).trans hw107_4), ((HB.out.cell (World.block_lt_of_cell? w _ hw107_5)).trans hw107_5)⟩ (fun hHeld => ?_); refine with_tabW laws_eqEntryS.tab6 laws_eqEntryS.bits6 (fun HT_ HW_ => ?_)
 generalize wr.drew = w9 at HB hx106_0 hx106_1 hx106_2 hx106_3 hx106_4 hx106_5 hx107_0 hx107_1 hx107_2 hx107_3 hx107_4 hx107_5 hHeld ⊢
 refine pu_ 0 17 HT_ ?_
 refine pu_ 1 18 HT_ ?_
 refine pu_ 2 19 HT_ ?_
 refine pu_ 4 21 HT_ ?_
 refine pu_ 5 22 HT_ ?_
 refine pu_ 6 23 HT_ ?_
 refine ta_ 3 20 HT_ HW_ hHeld ?_ (r := by rintro w' ⟨s0, s1, s2, s3, s4, s5, s6, s7, s8, s9, s10, s11⟩; go_simp; with_reducible rfl)
 refine ta_ 7 24 HT_ HW_ hHeld ?_ (r := by rintro w' ⟨s0, s1, s2, s3, s4, s5, s6, s7, s8, s9, s10, s11⟩; go_simp; with_reducible rfl)
 refine one_ (i := 8) (N := some 25) #[true, true, true, true, true, true, true, true, true, false] rfl rfl (one_of HT_.out (by kernel_rfl)) (by decide) (fun K hK => ?_)
 refine goes_ Tryd.func83 (by kernel_rfl) rfl #[.agg #[.int .i64 ((rd_T70 l0 x5_1).f0), .int .i64 ((rd_T70 l0 x5_1).f1), .int .i64 ((rd_T70 l0 x5_1).f2.f0), .int .i64 ((rd_T70 l0 x5_1).f2.f1), .int .i64 ((rd_T70 l0 x5_1).f2.f2), .int .i64 ((rd_T70 l0 x5_1).f2.f3)], .agg #[.int .i64 ((rd_T70 l1 x5_1).f0), .int .i64 ((rd_T70 l1 x5_1).f1), .int .i64 ((rd_T70 l1 x5_1).f2.f0), .int .i64 ((rd_T70 l1 x5_1).f2.f1), .int .i64 ((rd_T70 l1 x5_1).f2.f2), .int .i64 ((rd_T70 l1 x5_1).f2.f3)]] (by rfl) rfl rfl lm_ ?_
 with_reducible refine (laws_eqEntry.calls ((rd_T70 l0 x5_1).f0) ((rd_T70 l0 x5_1).f1) ((rd_T70 l0 x5_1).f2.f0) ((rd_T70 l0 x5_1).f2.f1) ((rd_T70 l0 x5_1).f2.f2) ((rd_T70 l0 x5_1).f2.f3) ((rd_T70 l1 x5_1).f0) ((rd_T70 l1 x5_1).f1) ((rd_T70 l1 x5_1).f2.f0) ((rd_T70 l1 x5_1).f2.f1) ((rd_T70 l1 x5_1).f2.f2) ((rd_T70 l1 x5_1).f2.f3) true _ A7.out).mono ?_
 rintro e w10 ⟨rfl, hb⟩
 refine ⟨_, rfl, ?_⟩
 have n0_ := Aside0.mk (below_step bl_ hb)
 clear HB
 have HB := n0_
 clear n0_
 (try clear hb)
 (try clear hb2)
 (try clear hk)
 (try clear hi)
 refine hK.out _ _ ⟨((HB.out.cell (World.block_lt_of_cell? w _ hw106_0)).trans hw106_0), ((HB.out.cell (World.block_lt_of_cell? w _ hw106_1)).trans hw106_1), ((HB.out.cell (World.block_lt_of_cell? w _ hw106_2)).trans hw106_2), ((HB.out.cell (World.block_lt_of_cell? w _ hw106_3)).trans hw106_3), ((HB.out.cell (World.block_lt_of_cell? w _ hw106_4)).trans hw106_4), ((HB.out.cell (World.block_lt_of_cell? w _ hw106_5)).trans hw106_5), ((HB.out.cell (World.block_lt_of_cell? w _ hw107_0)).trans hw107_0), ((HB.out.cell (World.block_lt_of_cell? w _ hw107_1)).trans hw107_1), ((HB.out.cell (World.block_lt_of_cell? w _ hw107_2)).trans hw107_2), ((HB.out.cell (World.block_lt_of_cell? w _ hw107_3)).trans hw107_3), ((HB.out.cell (World.block_lt_of_cell? w _ hw107_4)).trans hw107_4), ((HB.out.cell (World.block_lt_of_cell? w _ hw107_5)).trans hw107_5)⟩ (fun hHeld => ?_)
 clear hK K
 refine norm_ (a' := ?_) ?_ ?_
 rotate_left
 ·show Act.put _ (some 25) _ = _
  simp only [Act.put, List.setIfInBounds_toArray, List.set_cons_zero, List.set_cons_succ, i64_w, i32_w]
  rfl
 refine pu_ 9 26 HT_ ?_
 refine done_ (done_of HT_.out (by kernel_rfl)) ?_
 try go_wp2
 go_roundg k1
 case measure => have := HK1.out; omega
 case rel => exact ⟨(wrap64 (x5_1 + 1)), (sr_), H', ⟨by have := HK1.out; omega⟩, ⟨bl_⟩⟩


/-! ### laws_eqSegment: function 21 -/
def laws_eqSegment.f (k : Nat) (a0_0 : Int) (a0_1 : ByteArray) (l0_2 : List (S70)) (a0_3 : ByteArray) (a1_0 : Int) (a1_1 : ByteArray) (l1_2 : List (S70)) (a1_3 : ByteArray) : Option (Bool) := if a0_0 = a1_0 then (if a0_1.toList = a1_1.toList then ((laws_eqEntryS.f k l0_2 l1_2).bind fun t111 => (if t111 = true then (if a0_3.toList = a1_3.toList then (some true) else (some false)) else (some false))) else (some false)) else (some false)
theorem laws_eqSegment.mono : ∀ a0 a1 a2 a3 a4 a5 a6 a7 k, LeO (laws_eqSegment.f k a0 a1 a2 a3 a4 a5 a6 a7) (laws_eqSegment.f (k + 1) a0 a1 a2 a3 a4 a5 a6 a7) := by
 intro a0 a1 a2 a3 a4 a5 a6 a7 k
 unfold laws_eqSegment.f
 have m0 := @laws_eqEntryS.mono
 exact mo_
set_option maxHeartbeats 8000000 in
set_option maxRecDepth 100000 in
theorem laws_eqSegment.calls (k : Nat) (a0_0 : Int) (a0_1 : ByteArray) (A0_2 : Option Addr) (c0_2 : Nat) (l0_2 : List (S70)) (a0_3 : ByteArray) (a1_0 : Int) (a1_1 : ByteArray) (A1_2 : Option Addr) (c1_2 : Nat) (l1_2 : List (S70)) (a1_3 : ByteArray) (r : Bool) (w : World) (hr0_2 : Kd.C k70 w A0_2 l0_2.length l0_2) (hc0_2 : l0_2.length ≤ c0_2) (hr1_2 : Kd.C k70 w A1_2 l1_2.length l1_2) (hc1_2 : l1_2.length ≤ c1_2) (h : laws_eqSegment.f k a0_0 a0_1 l0_2 a0_3 a1_0 a1_1 l1_2 a1_3 = some r) :
 Calls Tryd.prog 21 #[.agg #[.int .i64 a0_0, .string a0_1, .slice A0_2 l0_2.length c0_2, .string a0_3], .agg #[.int .i64 a1_0, .string a1_1, .slice A1_2 l1_2.length c1_2, .string a1_3]] w fun e w' => e = .returned (.bool r) ∧ Below w.heap.size w w' := by
 have hu30 := Tryd.underlying30
 have HR0_2 := Aside0.mk hr0_2
 have HC0_2 := Aside0.mk hc0_2
 clear hr0_2 hc0_2
 have HR1_2 := Aside0.mk hr1_2
 have HC1_2 := Aside0.mk hc1_2
 clear hr1_2 hc1_2
 have HB := Aside0.mk (Below.refl w.heap.size w)
 have H : (if a0_0 = a1_0 then (if a0_1.toList = a1_1.toList then ((laws_eqEntryS.f k l0_2 l1_2).bind fun t111 => (if t111 = true then (if a0_3.toList = a1_3.toList then (some true) else (some false)) else (some false))) else (some false)) else (some false)) = some r := h
 clear h
 by_cases c3 : a0_0 = a1_0
 rotate_left
 ·rw [if_neg c3] at H
  have c3b0 : (a0_0 == a1_0) = false := beq_eq_false_iff_ne.mpr c3
  have c3b1 : (a0_0 != a1_0) = true := bne_iff_ne.mpr c3
  obtain rfl := Option.some.inj H
  go_enter Tryd.func21, Tryd.ntmps21
  go_wp2_with (first | ((with_reducible refine gate_dst (N := 2) rfl ?_); refine bx_ 2 30 #[.int .i64 a0_0, .string a0_1, .slice A0_2 l0_2.length c0_2, .string a0_3] ?_; intro gb109 hg w35 hbox hb; have BK109 := Aside0.mk (hbox); have GW109 := Aside0.mk ((hz_ : w.heap.size ≤ gb109)); have GE109 := Aside0.mk ((hz_ : w.heap.size ≤ gb109)); replace HB := Aside0.mk (below_step bl_ hb); clear hb hbox hg) | ((with_reducible refine gate_dst (N := 3) rfl ?_); refine bx_ 3 30 #[.int .i64 a1_0, .string a1_1, .slice A1_2 l1_2.length c1_2, .string a1_3] ?_; intro gb110 hg w36 hbox hb; have BK110 := Aside0.mk (hbox); have GW110 := Aside0.mk ((hz_ : w.heap.size ≤ gb110)); have GE110 := Aside0.mk ((hz_ : w.heap.size ≤ gb110)); replace HB := Aside0.mk (below_step bl_ hb); have NB109_110 := Aside0.mk ((by rw [hg]; exact Nat.ne_of_lt (blk_lt (g := gb109) (o := .cells #[.int .i64 a0_0, .string a0_1, .slice A0_2 l0_2.length c0_2, .string a0_3] 30 (0, 0)) (bk_ BK109.out)) : gb109 ≠ gb110)); have NB110_109 := Aside0.mk ((by rw [hg]; exact Nat.ne_of_gt (blk_lt (g := gb109) (o := .cells #[.int .i64 a0_0, .string a0_1, .slice A0_2 l0_2.length c0_2, .string a0_3] 30 (0, 0)) (bk_ BK109.out)) : gb110 ≠ gb109)); replace BK109 := Aside0.mk (blk_below (bn0_ BK109.out) hb); clear hb hbox hg; have hnb37 := NB109_110.out; have hnc37 := NB110_109.out; obtain ⟨hcz38_0, hcz38_1, hcz38_2, hcz38_3, hfz38_0, hfz38_1, hfz38_2, hfz38_3⟩ := cf4_ BK109.out; obtain ⟨hcz39_0, hcz39_1, hcz39_2, hcz39_3, hfz39_0, hfz39_1, hfz39_2, hfz39_3⟩ := cf4_ BK110.out))
  go_ret
  exact ⟨er_, bl_⟩
 rw [if_pos c3] at H
 have c3b0 : (a0_0 == a1_0) = true := beq_iff_eq.mpr c3
 have c3b1 : (a0_0 != a1_0) = false := bne_eq_false_iff_eq.mpr c3
 clear c3
 by_cases c4 : a0_1.toList = a1_1.toList
 rotate_left
 ·rw [if_neg c4] at H
  have c4b0 : (a0_1.toList == a1_1.toList) = false := beq_eq_false_iff_ne.mpr c4
  have c4b1 : (a0_1.toList != a1_1.toList) = true := bne_iff_ne.mpr c4
  obtain rfl := Option.some.inj H
  go_enter Tryd.func21, Tryd.ntmps21
  go_wp2_with (first | ((with_reducible refine gate_dst (N := 2) rfl ?_); refine bx_ 2 30 #[.int .i64 a0_0, .string a0_1, .slice A0_2 l0_2.length c0_2, .string a0_3] ?_; intro gb109 hg w30 hbox hb; have BK109 := Aside0.mk (hbox); have GW109 := Aside0.mk ((hz_ : w.heap.size ≤ gb109)); have GE109 := Aside0.mk ((hz_ : w.heap.size ≤ gb109)); replace HB := Aside0.mk (below_step bl_ hb); clear hb hbox hg) | ((with_reducible refine gate_dst (N := 3) rfl ?_); refine bx_ 3 30 #[.int .i64 a1_0, .string a1_1, .slice A1_2 l1_2.length c1_2, .string a1_3] ?_; intro gb110 hg w31 hbox hb; have BK110 := Aside0.mk (hbox); have GW110 := Aside0.mk ((hz_ : w.heap.size ≤ gb110)); have GE110 := Aside0.mk ((hz_ : w.heap.size ≤ gb110)); replace HB := Aside0.mk (below_step bl_ hb); have NB109_110 := Aside0.mk ((by rw [hg]; exact Nat.ne_of_lt (blk_lt (g := gb109) (o := .cells #[.int .i64 a0_0, .string a0_1, .slice A0_2 l0_2.length c0_2, .string a0_3] 30 (0, 0)) (bk_ BK109.out)) : gb109 ≠ gb110)); have NB110_109 := Aside0.mk ((by rw [hg]; exact Nat.ne_of_gt (blk_lt (g := gb109) (o := .cells #[.int .i64 a0_0, .string a0_1, .slice A0_2 l0_2.length c0_2, .string a0_3] 30 (0, 0)) (bk_ BK109.out)) : gb110 ≠ gb109)); replace BK109 := Aside0.mk (blk_below (bn0_ BK109.out) hb); clear hb hbox hg; have hnb32 := NB109_110.out; have hnc32 := NB110_109.out; obtain ⟨hcz33_0, hcz33_1, hcz33_2, hcz33_3, hfz33_0, hfz33_1, hfz33_2, hfz33_3⟩ := cf4_ BK109.out; obtain ⟨hcz34_0, hcz34_1, hcz34_2, hcz34_3, hfz34_0, hfz34_1, hfz34_2, hfz34_3⟩ := cf4_ BK110.out))
  go_ret
  exact ⟨er_, bl_⟩
 rw [if_pos c4] at H
 have c4b0 : (a0_1.toList == a1_1.toList) = true := beq_iff_eq.mpr c4
 have c4b1 : (a0_1.toList != a1_1.toList) = false := bne_eq_false_iff_eq.mpr c4
 clear c4
 replace H := bs_ H
 obtain ⟨t111, A5, H⟩ := H
 try dsimp only at H
 by_cases c6 : t111 = true
 rotate_left
 ·replace c6 := Bool.eq_false_iff.mpr c6
  subst c6
  rw [if_neg (show ¬ (false = true) by decide)] at H
  obtain rfl := Option.some.inj H
  go_enter Tryd.func21, Tryd.ntmps21
  go_wp2_with (first | ((with_reducible refine gate_dst (N := 2) rfl ?_); refine bx_ 2 30 #[.int .i64 a0_0, .string a0_1, .slice A0_2 l0_2.length c0_2, .string a0_3] ?_; intro gb109 hg w24 hbox hb; have BK109 := Aside0.mk (hbox); have GW109 := Aside0.mk ((hz_ : w.heap.size ≤ gb109)); have GE109 := Aside0.mk ((hz_ : w.heap.size ≤ gb109)); replace HB := Aside0.mk (below_step bl_ hb); clear hb hbox hg) | ((with_reducible refine gate_dst (N := 3) rfl ?_); refine bx_ 3 30 #[.int .i64 a1_0, .string a1_1, .slice A1_2 l1_2.length c1_2, .string a1_3] ?_; intro gb110 hg w25 hbox hb; have BK110 := Aside0.mk (hbox); have GW110 := Aside0.mk ((hz_ : w.heap.size ≤ gb110)); have GE110 := Aside0.mk ((hz_ : w.heap.size ≤ gb110)); replace HB := Aside0.mk (below_step bl_ hb); have NB109_110 := Aside0.mk ((by rw [hg]; exact Nat.ne_of_lt (blk_lt (g := gb109) (o := .cells #[.int .i64 a0_0, .string a0_1, .slice A0_2 l0_2.length c0_2, .string a0_3] 30 (0, 0)) (bk_ BK109.out)) : gb109 ≠ gb110)); have NB110_109 := Aside0.mk ((by rw [hg]; exact Nat.ne_of_gt (blk_lt (g := gb109) (o := .cells #[.int .i64 a0_0, .string a0_1, .slice A0_2 l0_2.length c0_2, .string a0_3] 30 (0, 0)) (bk_ BK109.out)) : gb110 ≠ gb109)); replace BK109 := Aside0.mk (blk_below (bn0_ BK109.out) hb); clear hb hbox hg; have hnb26 := NB109_110.out; have hnc26 := NB110_109.out; obtain ⟨hcz27_0, hcz27_1, hcz27_2, hcz27_3, hfz27_0, hfz27_1, hfz27_2, hfz27_3⟩ := cf4_ BK109.out; obtain ⟨hcz28_0, hcz28_1, hcz28_2, hcz28_3, hfz28_0, hfz28_1, hfz28_2, hfz28_3⟩ := cf4_ BK110.out) | ((with_reducible refine gate_callee (f := 29) rfl ?_); refine gs_ (some 19) Tryd.func29 #[.slice A0_2 l0_2.length c0_2, .slice A1_2 l1_2.length c1_2] ?_; (with_reducible refine (laws_eqEntryS.calls k _ _ l0_2 _ _ l1_2 false _ ?side1 ?side2 ?side3 ?side4 A5.out).mono ?_); (case side1 => repeat (first | exact (Kd.C_below HR0_2.out HB.out) | exact HR0_2.out | (with_reducible refine Kd.C_alloc ?_ _) | (with_reducible refine Kd.C_drewN ?_ _) | (with_reducible refine Kd.C_drew ?_))); (case side2 => exact HC0_2.out); (case side3 => repeat (first | exact (Kd.C_below HR1_2.out HB.out) | exact HR1_2.out | (with_reducible refine Kd.C_alloc ?_ _) | (with_reducible refine Kd.C_drewN ?_ _) | (with_reducible refine Kd.C_drew ?_))); (case side4 => exact HC1_2.out); rintro e w29 ⟨rfl, hb⟩; refine ⟨_, rfl, ?_⟩; replace BK109 := Aside0.mk (blk_below (bn0_ BK109.out) hb); replace BK110 := Aside0.mk (blk_below (bn0_ BK110.out) hb); replace HB := Aside0.mk (below_step bl_ hb); (try clear hb)))
  go_ret
  exact ⟨er_, bl_⟩
 subst c6
 rw [if_pos rfl] at H
 by_cases c7 : a0_3.toList = a1_3.toList
 rotate_left
 ·rw [if_neg c7] at H
  have c7b0 : (a0_3.toList == a1_3.toList) = false := beq_eq_false_iff_ne.mpr c7
  have c7b1 : (a0_3.toList != a1_3.toList) = true := bne_iff_ne.mpr c7
  obtain rfl := Option.some.inj H
  go_enter Tryd.func21, Tryd.ntmps21
  go_wp2_with (first | ((with_reducible refine gate_dst (N := 2) rfl ?_); refine bx_ 2 30 #[.int .i64 a0_0, .string a0_1, .slice A0_2 l0_2.length c0_2, .string a0_3] ?_; intro gb109 hg w16 hbox hb; have BK109 := Aside0.mk (hbox); have GW109 := Aside0.mk ((hz_ : w.heap.size ≤ gb109)); have GE109 := Aside0.mk ((hz_ : w.heap.size ≤ gb109)); replace HB := Aside0.mk (below_step bl_ hb); clear hb hbox hg) | ((with_reducible refine gate_dst (N := 3) rfl ?_); refine bx_ 3 30 #[.int .i64 a1_0, .string a1_1, .slice A1_2 l1_2.length c1_2, .string a1_3] ?_; intro gb110 hg w17 hbox hb; have BK110 := Aside0.mk (hbox); have GW110 := Aside0.mk ((hz_ : w.heap.size ≤ gb110)); have GE110 := Aside0.mk ((hz_ : w.heap.size ≤ gb110)); replace HB := Aside0.mk (below_step bl_ hb); have NB109_110 := Aside0.mk ((by rw [hg]; exact Nat.ne_of_lt (blk_lt (g := gb109) (o := .cells #[.int .i64 a0_0, .string a0_1, .slice A0_2 l0_2.length c0_2, .string a0_3] 30 (0, 0)) (bk_ BK109.out)) : gb109 ≠ gb110)); have NB110_109 := Aside0.mk ((by rw [hg]; exact Nat.ne_of_gt (blk_lt (g := gb109) (o := .cells #[.int .i64 a0_0, .string a0_1, .slice A0_2 l0_2.length c0_2, .string a0_3] 30 (0, 0)) (bk_ BK109.out)) : gb110 ≠ gb109)); replace BK109 := Aside0.mk (blk_below (bn0_ BK109.out) hb); clear hb hbox hg; have hnb18 := NB109_110.out; have hnc18 := NB110_109.out; obtain ⟨hcz19_0, hcz19_1, hcz19_2, hcz19_3, hfz19_0, hfz19_1, hfz19_2, hfz19_3⟩ := cf4_ BK109.out; obtain ⟨hcz20_0, hcz20_1, hcz20_2, hcz20_3, hfz20_0, hfz20_1, hfz20_2, hfz20_3⟩ := cf4_ BK110.out) | ((with_reducible refine gate_callee (f := 29) rfl ?_); refine gs_ (some 19) Tryd.func29 #[.slice A0_2 l0_2.length c0_2, .slice A1_2 l1_2.length c1_2] ?_; (with_reducible refine (laws_eqEntryS.calls k _ _ l0_2 _ _ l1_2 true _ ?side1 ?side2 ?side3 ?side4 A5.out).mono ?_); (case side1 => repeat (first | exact (Kd.C_below HR0_2.out HB.out) | exact HR0_2.out | (with_reducible refine Kd.C_alloc ?_ _) | (with_reducible refine Kd.C_drewN ?_ _) | (with_reducible refine Kd.C_drew ?_))); (case side2 => exact HC0_2.out); (case side3 => repeat (first | exact (Kd.C_below HR1_2.out HB.out) | exact HR1_2.out | (with_reducible refine Kd.C_alloc ?_ _) | (with_reducible refine Kd.C_drewN ?_ _) | (with_reducible refine Kd.C_drew ?_))); (case side4 => exact HC1_2.out); rintro e w21 ⟨rfl, hb⟩; refine ⟨_, rfl, ?_⟩; replace BK109 := Aside0.mk (blk_below (bn0_ BK109.out) hb); replace BK110 := Aside0.mk (blk_below (bn0_ BK110.out) hb); replace HB := Aside0.mk (below_step bl_ hb); (try clear hb); obtain ⟨hcz22_0, hcz22_1, hcz22_2, hcz22_3, hfz22_0, hfz22_1, hfz22_2, hfz22_3⟩ := cf4_ BK109.out; obtain ⟨hcz23_0, hcz23_1, hcz23_2, hcz23_3, hfz23_0, hfz23_1, hfz23_2, hfz23_3⟩ := cf4_ BK110.out))
  go_ret
  exact ⟨er_, bl_⟩
 rw [if_pos c7] at H
 have c7b0 : (a0_3.toList == a1_3.toList) = true := beq_iff_eq.mpr c7
 have c7b1 : (a0_3.toList != a1_3.toList) = false := bne_eq_false_iff_eq.mpr c7
 clear c7
 obtain rfl := Option.some.inj H
 go_enter Tryd.func21, Tryd.ntmps21
 go_wp2_with (first | ((with_reducible refine gate_dst (N := 2) rfl ?_); refine bx_ 2 30 #[.int .i64 a0_0, .string a0_1, .slice A0_2 l0_2.length c0_2, .string a0_3] ?_; intro gb109 hg w8 hbox hb; have BK109 := Aside0.mk (hbox); have GW109 := Aside0.mk ((hz_ : w.heap.size ≤ gb109)); have GE109 := Aside0.mk ((hz_ : w.heap.size ≤ gb109)); replace HB := Aside0.mk (below_step bl_ hb); clear hb hbox hg) | ((with_reducible refine gate_dst (N := 3) rfl ?_); refine bx_ 3 30 #[.int .i64 a1_0, .string a1_1, .slice A1_2 l1_2.length c1_2, .string a1_3] ?_; intro gb110 hg w9 hbox hb; have BK110 := Aside0.mk (hbox); have GW110 := Aside0.mk ((hz_ : w.heap.size ≤ gb110)); have GE110 := Aside0.mk ((hz_ : w.heap.size ≤ gb110)); replace HB := Aside0.mk (below_step bl_ hb); have NB109_110 := Aside0.mk ((by rw [hg]; exact Nat.ne_of_lt (blk_lt (g := gb109) (o := .cells #[.int .i64 a0_0, .string a0_1, .slice A0_2 l0_2.length c0_2, .string a0_3] 30 (0, 0)) (bk_ BK109.out)) : gb109 ≠ gb110)); have NB110_109 := Aside0.mk ((by rw [hg]; exact Nat.ne_of_gt (blk_lt (g := gb109) (o := .cells #[.int .i64 a0_0, .string a0_1, .slice A0_2 l0_2.length c0_2, .string a0_3] 30 (0, 0)) (bk_ BK109.out)) : gb110 ≠ gb109)); replace BK109 := Aside0.mk (blk_below (bn0_ BK109.out) hb); clear hb hbox hg; have hnb10 := NB109_110.out; have hnc10 := NB110_109.out; obtain ⟨hcz11_0, hcz11_1, hcz11_2, hcz11_3, hfz11_0, hfz11_1, hfz11_2, hfz11_3⟩ := cf4_ BK109.out; obtain ⟨hcz12_0, hcz12_1, hcz12_2, hcz12_3, hfz12_0, hfz12_1, hfz12_2, hfz12_3⟩ := cf4_ BK110.out) | ((with_reducible refine gate_callee (f := 29) rfl ?_); refine gs_ (some 19) Tryd.func29 #[.slice A0_2 l0_2.length c0_2, .slice A1_2 l1_2.length c1_2] ?_; (with_reducible refine (laws_eqEntryS.calls k _ _ l0_2 _ _ l1_2 true _ ?side1 ?side2 ?side3 ?side4 A5.out).mono ?_); (case side1 => repeat (first | exact (Kd.C_below HR0_2.out HB.out) | exact HR0_2.out | (with_reducible refine Kd.C_alloc ?_ _) | (with_reducible refine Kd.C_drewN ?_ _) | (with_reducible refine Kd.C_drew ?_))); (case side2 => exact HC0_2.out); (case side3 => repeat (first | exact (Kd.C_below HR1_2.out HB.out) | exact HR1_2.out | (with_reducible refine Kd.C_alloc ?_ _) | (with_reducible refine Kd.C_drewN ?_ _) | (with_reducible refine Kd.C_drew ?_))); (case side4 => exact HC1_2.out); rintro e w13 ⟨rfl, hb⟩; refine ⟨_, rfl, ?_⟩; replace BK109 := Aside0.mk (blk_below (bn0_ BK109.out) hb); replace BK110 := Aside0.mk (blk_below (bn0_ BK110.out) hb); replace HB := Aside0.mk (below_step bl_ hb); (try clear hb); obtain ⟨hcz14_0, hcz14_1, hcz14_2, hcz14_3, hfz14_0, hfz14_1, hfz14_2, hfz14_3⟩ := cf4_ BK109.out; obtain ⟨hcz15_0, hcz15_1, hcz15_2, hcz15_3, hfz15_0, hfz15_1, hfz15_2, hfz15_3⟩ := cf4_ BK110.out))
 go_ret
 exact ⟨er_, bl_⟩


/-! ### spec_HeadFrom: function 71 -/
def spec_HeadFrom.l0 : Nat → List (S70) → ByteArray → Int → Option (ByteArray)
 | 0, _, _, _ => none
 | k + 1, x1, x5, x6 => if x6 < (x1.length : Int) then (if 0 ≤ x6 then ((spec_EntryText.f k ((rd_T70 x1 x6).f0) ((rd_T70 x1 x6).f1) ((rd_T70 x1 x6).f2.f0) ((rd_T70 x1 x6).f2.f1) ((rd_T70 x1 x6).f2.f2) ((rd_T70 x1 x6).f2.f3)).bind fun t158 => (if x5.size + t158.size ≤ 9223372036854775807 then ((spec_Digest.f (x5 ++ t158)).bind fun t159 => (spec_HeadFrom.l0 k x1 t159 (wrap64 (x6 + 1)))) else (none))) else (none)) else (some x5)
def spec_HeadFrom.f (k : Nat) (a0 : ByteArray) (l1 : List (S70)) : Option (ByteArray) := spec_HeadFrom.l0 k l1 a0 0
theorem spec_HeadFrom.mono_l : ∀ k, (∀ y0 y1 y2, LeO (spec_HeadFrom.l0 k y0 y1 y2) (spec_HeadFrom.l0 (k + 1) y0 y1 y2))
 | 0 => fun _ _ _ r h => by simp [spec_HeadFrom.l0] at h
 | k + 1 => by
  have ih0 := spec_HeadFrom.mono_l k
  ·intro y0 y1 y2
   unfold spec_HeadFrom.l0
   have m0 := @spec_EntryText.mono
   exact mo_
theorem spec_HeadFrom.mono : ∀ a0 a1 k, LeO (spec_HeadFrom.f k a0 a1) (spec_HeadFrom.f (k + 1) a0 a1) := by
 intro a0 a1 k
 have ih0 := spec_HeadFrom.mono_l k
 unfold spec_HeadFrom.f
 have m0 := @spec_EntryText.mono
 exact mo_
set_option maxHeartbeats 8000000 in
set_option maxRecDepth 100000 in
theorem spec_HeadFrom.calls (k : Nat) (a0 : ByteArray) (A1 : Option Addr) (c1 : Nat) (l1 : List (S70)) (r : ByteArray) (w : World) (hr1 : Kd.C k70 w A1 l1.length l1) (hc1 : l1.length ≤ c1) (h : spec_HeadFrom.f k a0 l1 = some r) :
 Calls Tryd.prog 71 #[.string a0, .slice A1 l1.length c1] w fun e w' => e = .returned (.string r) ∧ Below w.heap.size w w' := by
 have hu70 := Tryd.underlying70
 have HR1 := Aside0.mk hr1
 have HC1 := Aside0.mk hc1
 clear hr1 hc1
 have HB := Aside0.mk (Below.refl w.heap.size w)
 have H : (spec_HeadFrom.l0 k l1 a0 0) = some r := h
 clear h
 have H' := Aside0.mk H
 clear H
 go_enter Tryd.func71, Tryd.ntmps71
 go_wp2
 go_loopg [5, 6] k (fun kq v5 v6 w' => ∃ (x5_1 : ByteArray) (x6_1 : Int), v5 = .string x5_1 ∧ v6 = .int .i64 x6_1 ∧ Aside0 (spec_HeadFrom.l0 kq l1 x5_1 x6_1 = some r) ∧ Aside0 (kq ≤ k) ∧ Aside0 (Below w.heap.size w w'))
 case atStart => exact ⟨(a0), (0), (sr_), (sr_), H', ⟨Nat.le_refl _⟩, ⟨bl_⟩⟩
 clear H'
 try clear c1
 obtain ⟨x5_1, x6_1, rfl, rfl, HA, HK1, HB⟩ := hrel
 cases gk with
 | zero => exact absurd HA.out (by simp [spec_HeadFrom.l0])
 | succ k1 => ?_
 have H := HA.out
 clear HA
 simp only [spec_HeadFrom.l0] at H
 by_cases c3 : x6_1 < (l1.length : Int)
 rotate_left
 ·rw [if_neg c3] at H
  have c3b0 := decide_eq_false c3
  clear c3
  obtain rfl := Option.some.inj H
  go_wp2
  go_ret
  exact ⟨er_, bl_⟩
 rw [if_pos c3] at H
 have c3b0 := decide_eq_true c3
 clear c3
 by_cases c4 : 0 ≤ x6_1
 rotate_left
 ·exact nn_ c4 H
 rw [if_pos c4] at H
 have c4b0 := decide_eq_true c4
 clear c4
 replace H := bs_ H
 obtain ⟨t158, A5, H⟩ := H
 try dsimp only at H
 by_cases c6 : x5_1.size + t158.size ≤ 9223372036854775807
 rotate_left
 ·exact nn_ c6 H
 rw [if_pos c6] at H
 have c6b0 := eq_true c6
 have c6b1 : decide (x5_1.size + t158.size ≤ 9223372036854775807) = true := decide_eq_true c6
 try have c6b2 : (9223372036854775807 < x5_1.size + t158.size) = False := eq_false (Nat.not_lt.2 c6)
 replace H := bs_ H
 obtain ⟨t159, A7, H⟩ := H
 try dsimp only at H
 have H' := Aside0.mk H
 clear H
 have p157 : 0 ≤ (x6_1 : Int) := of_decide_eq_true as_
 have q157 : x6_1 < (l1.length : Int) := of_decide_eq_true as_
 obtain ⟨ad157, e157, hx157_0, hx157_1, hx157_2, hx157_3, hx157_4, hx157_5⟩ := at_T70 HR1.out x6_1 p157 q157
 cases e157
 replace hx157_0 := (HB.out.cell (World.block_lt_of_cell? w _ hx157_0)).trans hx157_0
 replace hx157_1 := (HB.out.cell (World.block_lt_of_cell? w _ hx157_1)).trans hx157_1
 replace hx157_2 := (HB.out.cell (World.block_lt_of_cell? w _ hx157_2)).trans hx157_2
 replace hx157_3 := (HB.out.cell (World.block_lt_of_cell? w _ hx157_3)).trans hx157_3
 replace hx157_4 := (HB.out.cell (World.block_lt_of_cell? w _ hx157_4)).trans hx157_4
 replace hx157_5 := (HB.out.cell (World.block_lt_of_cell? w _ hx157_5)).trans hx157_5
 replace p157 := eq_true p157
 replace q157 := eq_true q157
 go_wp2_with (first | ((with_reducible refine gate_callee (f := 64) rfl ?_); refine gs_ (some 19) Tryd.func64 #[.agg #[.int .i64 ((rd_T70 l1 x6_1).f0), .int .i64 ((rd_T70 l1 x6_1).f1), .int .i64 ((rd_T70 l1 x6_1).f2.f0), .int .i64 ((rd_T70 l1 x6_1).f2.f1), .int .i64 ((rd_T70 l1 x6_1).f2.f2), .int .i64 ((rd_T70 l1 x6_1).f2.f3)]] ?_; (with_reducible refine (spec_EntryText.calls k1 ((rd_T70 l1 x6_1).f0) ((rd_T70 l1 x6_1).f1) ((rd_T70 l1 x6_1).f2.f0) ((rd_T70 l1 x6_1).f2.f1) ((rd_T70 l1 x6_1).f2.f2) ((rd_T70 l1 x6_1).f2.f3) t158 _ A5.out).mono ?_); rintro e w8 ⟨rfl, hb⟩; refine ⟨_, rfl, ?_⟩; replace HB := Aside0.mk (below_step bl_ hb); (try clear hb)) | ((with_reducible refine gate_callee (f := 56) rfl ?_); refine gs_ (some 21) Tryd.func56 #[.string (x5_1 ++ t158)] ?_; (with_reducible refine (spec_Digest.calls (x5_1 ++ t158) t159 _ A7.out).mono ?_); rintro e w9 ⟨rfl, hb⟩; refine ⟨_, rfl, ?_⟩; replace HB := Aside0.mk (below_step bl_ hb); (try clear hb)))
 go_roundg k1
 case measure => have := HK1.out; omega
 case rel => exact ⟨(t159), (wrap64 (x6_1 + 1)), (sr_), (sr_), H', ⟨by have := HK1.out; omega⟩, ⟨bl_⟩⟩


/-! ### spec_SegmentOk: function 18 -/
mutual
def spec_SegmentOk.j0 : Nat → Bool → Int → ByteArray → List (S70) → ByteArray → Option (Bool)
 | 0, _, _, _, _, _ => none
 | k + 1, x20, x161000, x161001, x161002, x161003 => if x20 = true then (some false) else (spec_SegmentOk.l0 k 0 x161000 x161001 x161002 x161003)
def spec_SegmentOk.l0 : Nat → Int → Int → ByteArray → List (S70) → ByteArray → Option (Bool)
 | 0, _, _, _, _, _ => none
 | k + 1, x3, x161000, x161001, x161002, x161003 => if x3 < (x161002.length : Int) then (if 0 ≤ x3 then ((spec_EntryText.f k ((rd_T70 x161002 x3).f0) ((rd_T70 x161002 x3).f1) ((rd_T70 x161002 x3).f2.f0) ((rd_T70 x161002 x3).f2.f1) ((rd_T70 x161002 x3).f2.f2) ((rd_T70 x161002 x3).f2.f3)).bind fun t164 => (if t164.toList = ([] : List UInt8) then (some false) else (spec_SegmentOk.l0 k (wrap64 (x3 + 1)) x161000 x161001 x161002 x161003))) else (none)) else ((spec_HeadFrom.f k x161001 x161002).bind fun t165 => (some (x161003.toList == t165.toList)))
end
def spec_SegmentOk.f (k : Nat) (a0_0 : Int) (a0_1 : ByteArray) (l0_2 : List (S70)) (a0_3 : ByteArray) : Option (Bool) := (spec_l01In.f a0_0 0 200).bind fun t161 => (if t161 = true then (if (a0_1.size : Int) = 32 then ((spec_l01In.f (l0_2.length : Int) 1 200).bind fun t162 => (spec_SegmentOk.j0 k (!t162) a0_0 a0_1 l0_2 a0_3)) else (spec_SegmentOk.j0 k true a0_0 a0_1 l0_2 a0_3)) else (spec_SegmentOk.j0 k true a0_0 a0_1 l0_2 a0_3))
theorem spec_SegmentOk.mono_l : ∀ k, (∀ y0 y1 y2 y3 y4, LeO (spec_SegmentOk.j0 k y0 y1 y2 y3 y4) (spec_SegmentOk.j0 (k + 1) y0 y1 y2 y3 y4)) ∧ (∀ y0 y1 y2 y3 y4, LeO (spec_SegmentOk.l0 k y0 y1 y2 y3 y4) (spec_SegmentOk.l0 (k + 1) y0 y1 y2 y3 y4))
 | 0 => ⟨fun _ _ _ _ _ r h => by simp [spec_SegmentOk.j0] at h, fun _ _ _ _ _ r h => by simp [spec_SegmentOk.l0] at h⟩
 | k + 1 => by
  obtain ⟨ih0, ih1⟩ := spec_SegmentOk.mono_l k
  refine ⟨?_, ?_⟩
  ·intro y0 y1 y2 y3 y4
   unfold spec_SegmentOk.j0
   have m0 := @spec_EntryText.mono
   have m1 := @spec_HeadFrom.mono
   exact mo_
  ·intro y0 y1 y2 y3 y4
   unfold spec_SegmentOk.l0
   have m0 := @spec_EntryText.mono
   have m1 := @spec_HeadFrom.mono
   exact mo_
theorem spec_SegmentOk.mono : ∀ a0 a1 a2 a3 k, LeO (spec_SegmentOk.f k a0 a1 a2 a3) (spec_SegmentOk.f (k + 1) a0 a1 a2 a3) := by
 intro a0 a1 a2 a3 k
 obtain ⟨ih0, ih1⟩ := spec_SegmentOk.mono_l k
 unfold spec_SegmentOk.f
 have m0 := @spec_EntryText.mono
 have m1 := @spec_HeadFrom.mono
 exact mo_
def spec_SegmentOk.T8 : Bool × List (List Nat × List Nat) := (true, [([], []), ([0], [0]), ([], []), ([2], [2]), ([], []), ([4], [4]), ([3, 5], [3, 5]), ([1, 6], [1, 6]), ([7, 6, 0, 1, 2, 3, 4, 5, 6, 7], [7])])
def spec_SegmentOk.B8 : List Nat := [0, 1, 0, 4, 0, 16, 60, 127, 255]
theorem spec_SegmentOk.tab8 : rtab .any (opsOf Tryd.f18 8) = spec_SegmentOk.T8 := by kernel_rfl
theorem spec_SegmentOk.bits8 : waitsOk spec_SegmentOk.T8.2 spec_SegmentOk.B8 = true := by kernel_rfl
set_option maxHeartbeats 8000000 in
set_option maxRecDepth 100000 in
theorem spec_SegmentOk.calls (k : Nat) (a0_0 : Int) (a0_1 : ByteArray) (A0_2 : Option Addr) (c0_2 : Nat) (l0_2 : List (S70)) (a0_3 : ByteArray) (r : Bool) (w : World) (hr0_2 : Kd.C k70 w A0_2 l0_2.length l0_2) (hc0_2 : l0_2.length ≤ c0_2) (h : spec_SegmentOk.f k a0_0 a0_1 l0_2 a0_3 = some r) :
 Calls Tryd.prog 18 #[.agg #[.int .i64 a0_0, .string a0_1, .slice A0_2 l0_2.length c0_2, .string a0_3]] w fun e w' => e = .returned (.bool r) ∧ Below w.heap.size w w' := by
 have hu30 := Tryd.underlying30
 have hu70 := Tryd.underlying70
 have HR0_2 := Aside0.mk hr0_2
 have HC0_2 := Aside0.mk hc0_2
 clear hr0_2 hc0_2
 have HB := Aside0.mk (Below.refl w.heap.size w)
 have H : ((spec_l01In.f a0_0 0 200).bind fun t161 => (if t161 = true then (if (a0_1.size : Int) = 32 then ((spec_l01In.f (l0_2.length : Int) 1 200).bind fun t162 => (spec_SegmentOk.j0 k (!t162) a0_0 a0_1 l0_2 a0_3)) else (spec_SegmentOk.j0 k true a0_0 a0_1 l0_2 a0_3)) else (spec_SegmentOk.j0 k true a0_0 a0_1 l0_2 a0_3))) = some r := h
 clear h
 have HC2 := Aside0.mk H
 clear H
 go_enter Tryd.func18, Tryd.ntmps18
 go_upto_region 1 with (first | ((with_reducible refine gate_dst (N := 1) rfl ?_); (try (refine gate_guard (by rfl) ?_; dsimp only)); refine bx_ 1 30 #[.int .i64 a0_0, .string a0_1, .slice A0_2 l0_2.length c0_2, .string a0_3] ?_; intro gb160 hg w3 hbox hb; have BK160 := Aside0.mk (hbox); have GW160 := Aside0.mk ((hz_ : w.heap.size ≤ gb160)); have GE160 := Aside0.mk ((hz_ : w.heap.size ≤ gb160)); replace HB := Aside0.mk (below_step bl_ hb); clear hb hbox hg))
 (try simp only [Act.put, List.setIfInBounds_toArray, List.set_cons_zero, List.set_cons_succ])
 go_cut [20] (fun v20 wc => ∃ (kq : Nat) (x20_1 : Bool), v20 = .bool x20_1 ∧ Aside0 (spec_SegmentOk.j0 kq x20_1 a0_0 a0_1 l0_2 a0_3 = some r) ∧ Aside0 (kq ≤ k) ∧ Aside0 (wc.heap[gb160]? = some (.cells #[.int .i64 a0_0, .string a0_1, (.slice A0_2 l0_2.length c0_2), .string a0_3] 30 (0, 0))) ∧ Aside0 (Below w.heap.size w wc))
 case first =>
  have H := HC2.out
  clear HC2
  replace H := bs_ H
  obtain ⟨t161, A4, H⟩ := H
  try dsimp only at H
  by_cases c5 : t161 = true
  rotate_left
  ·replace c5 := Bool.eq_false_iff.mpr c5
   subst c5
   rw [if_neg (show ¬ (false = true) by decide)] at H
   have H' := Aside0.mk H
   clear H
   obtain ⟨hcz10_0, hcz10_1, hcz10_2, hcz10_3, hfz10_0, hfz10_1, hfz10_2, hfz10_3⟩ := cf4_ BK160.out
   go_wp2_with (first | ((with_reducible refine gate_callee (f := 70) rfl ?_); refine gs_ (some 6) Tryd.func70 #[.int .i64 a0_0, .int .i64 0, .int .i64 200] ?_; (with_reducible refine (spec_l01In.calls a0_0 0 200 false _ A4.out).mono ?_); rintro e w' ⟨rfl, ⟨nd, rfl⟩⟩; refine ⟨_, rfl, ?_⟩))
   go_meet
   case rel => exact ⟨_, (true), (sr_), H', ⟨by first | omega | exact Nat.le_refl _⟩, ⟨bk_ BK160.out⟩, ⟨bl_⟩⟩
  subst c5
  rw [if_pos rfl] at H
  by_cases c6 : (a0_1.size : Int) = 32
  rotate_left
  ·rw [if_neg c6] at H
   have c6b0 : ((a0_1.size : Int) == 32) = false := beq_eq_false_iff_ne.mpr c6
   have c6b1 : ((a0_1.size : Int) != 32) = true := bne_iff_ne.mpr c6
   (first | rw [c6b0] | (simp only [i64_w, i32_w]; rw [c6b0]) | skip)
   have H' := Aside0.mk H
   clear H
   obtain ⟨hcz9_0, hcz9_1, hcz9_2, hcz9_3, hfz9_0, hfz9_1, hfz9_2, hfz9_3⟩ := cf4_ BK160.out
   go_wp2_with (first | ((with_reducible refine gate_callee (f := 70) rfl ?_); refine gs_ (some 6) Tryd.func70 #[.int .i64 a0_0, .int .i64 0, .int .i64 200] ?_; (with_reducible refine (spec_l01In.calls a0_0 0 200 true _ A4.out).mono ?_); rintro e w' ⟨rfl, ⟨nd, rfl⟩⟩; refine ⟨_, rfl, ?_⟩))
   go_meet
   case rel => exact ⟨_, (true), (sr_), H', ⟨by first | omega | exact Nat.le_refl _⟩, ⟨bk_ BK160.out⟩, ⟨bl_⟩⟩
  rw [if_pos c6] at H
  have c6b0 : ((a0_1.size : Int) == 32) = true := beq_iff_eq.mpr c6
  have c6b1 : ((a0_1.size : Int) != 32) = false := bne_eq_false_iff_eq.mpr c6
  clear c6
  (first | rw [c6b0] | (simp only [i64_w, i32_w]; rw [c6b0]) | skip)
  replace H := bs_ H
  obtain ⟨t162, A7, H⟩ := H
  try dsimp only at H
  have H' := Aside0.mk H
  clear H
  obtain ⟨hcz8_0, hcz8_1, hcz8_2, hcz8_3, hfz8_0, hfz8_1, hfz8_2, hfz8_3⟩ := cf4_ BK160.out
  go_wp2_with (first | ((with_reducible refine gate_callee (f := 70) rfl ?_); refine gs_ (some 6) Tryd.func70 #[.int .i64 a0_0, .int .i64 0, .int .i64 200] ?_; (with_reducible refine (spec_l01In.calls a0_0 0 200 true _ A4.out).mono ?_); rintro e w' ⟨rfl, ⟨nd, rfl⟩⟩; refine ⟨_, rfl, ?_⟩) | (go_at_call 70; (with_reducible refine (spec_l01In.calls (l0_2.length : Int) 1 200 t162 _ A7.out).mono ?_); rintro e w' ⟨rfl, ⟨nd, rfl⟩⟩))
  go_meet
  case rel => exact ⟨_, (!t162), (sr_), H', ⟨by first | omega | exact Nat.le_refl _⟩, ⟨bk_ BK160.out⟩, ⟨bl_⟩⟩
 clear HC2
 obtain ⟨kq, x20_1, rfl, HA, HJ1, BK160, HB⟩ := hcut
 cases kq with
 | zero => exact absurd HA.out (by simp [spec_SegmentOk.j0])
 | succ kj1 => ?_
 have H := HA.out
 clear HA
 simp only [spec_SegmentOk.j0] at H
 by_cases c11 : x20_1 = true
 ·subst c11
  rw [if_pos rfl] at H
  obtain rfl := Option.some.inj H
  go_wp2
  go_ret
  exact ⟨er_, bl_⟩
 replace c11 := Bool.eq_false_iff.mpr c11
 subst c11
 rw [if_neg (show ¬ (false = true) by decide)] at H
 have H' := Aside0.mk H
 clear H
 go_wp2
 go_loopg [3] kj1 (fun kq v3 w' => ∃ (x3_2 : Int), v3 = .int .i64 x3_2 ∧ Aside0 (spec_SegmentOk.l0 kq x3_2 a0_0 a0_1 l0_2 a0_3 = some r) ∧ Aside0 (kq ≤ kj1) ∧ Aside0 (w'.heap[gb160]? = some (.cells #[.int .i64 a0_0, .string a0_1, (.slice A0_2 l0_2.length c0_2), .string a0_3] 30 (0, 0))) ∧ Aside0 (Below w.heap.size w w'))
 case atStart => exact ⟨(0), (sr_), H', ⟨Nat.le_refl _⟩, ⟨bk_ BK160.out⟩, ⟨bl_⟩⟩
 clear H'
 try clear c11
 obtain ⟨x3_2, rfl, HA, HK2, BK160, HB⟩ := hrel
 cases gk with
 | zero => exact absurd HA.out (by simp [spec_SegmentOk.l0])
 | succ k2 => ?_
 have H := HA.out
 clear HA
 simp only [spec_SegmentOk.l0] at H
 by_cases c12 : x3_2 < (l0_2.length : Int)
 rotate_left
 ·rw [if_neg c12] at H
  have c12b0 := decide_eq_false c12
  clear c12
  replace H := bs_ H
  obtain ⟨t165, A20, H⟩ := H
  try dsimp only at H
  obtain rfl := Option.some.inj H
  obtain ⟨hcz21_0, hcz21_1, hcz21_2, hcz21_3, hfz21_0, hfz21_1, hfz21_2, hfz21_3⟩ := cf4_ BK160.out
  try go_wp2
  have n0_ := Aside0.mk (blk_drew BK160.out)
  have n1_ := Aside0.mk (below_drew1 HB.out)
  clear BK160
  clear HB
  have BK160 := n0_
  have HB := n1_
  clear n0_ n1_
  refine start_ (n := 9) (S := fun w' => w'.cell? ⟨gb160, 0, none⟩ = some (.int .i64 a0_0) ∧ w'.cell? ⟨gb160, 1, none⟩ = some (.string a0_1) ∧ w'.cell? ⟨gb160, 2, none⟩ = some (.slice A0_2 l0_2.length c0_2) ∧ w'.cell? ⟨gb160, 3, none⟩ = some (.string a0_3)) (ds := []) #[false, false, false, false, false, false, false, false, false] (by kernel_rfl) rfl rfl ⟨(blk_cell BK160.out 0).trans rfl, (blk_cell BK160.out 1).trans rfl, (blk_cell BK160.out 2).trans rfl, (blk_cell BK160.out 3).trans rfl⟩ (fun hHeld => ?_); refine with_tabW spec_SegmentOk.tab8 spec_SegmentOk.bits8 (fun HT_ HW_ => ?_)
  generalize wr.drew = w22 at BK160 HB hHeld ⊢
  refine pu_ 0 35 HT_ ?_
  refine pu_ 2 37 HT_ ?_
  refine pu_ 4 39 HT_ ?_
  refine ta_ 1 36 HT_ HW_ hHeld ?_ (r := by rintro w' ⟨s0, s1, s2, s3⟩; go_simp; with_reducible rfl)
  refine ta_ 3 38 HT_ HW_ hHeld ?_ (r := by rintro w' ⟨s0, s1, s2, s3⟩; go_simp; with_reducible rfl)
  refine ta_ 5 40 HT_ HW_ hHeld ?_ (r := by rintro w' ⟨s0, s1, s2, s3⟩; go_simp; with_reducible rfl)
  refine one_ (i := 6) (N := some 41) #[true, true, true, true, true, true, true, false, false] rfl rfl (one_of HT_.out (by kernel_rfl)) (by decide) (fun K hK => ?_)
  refine goes_ Tryd.func71 (by kernel_rfl) rfl #[.string a0_1, .slice A0_2 l0_2.length c0_2] (by rfl) rfl rfl lm_ ?_
  with_reducible refine (spec_HeadFrom.calls k2 a0_1 _ _ l0_2 t165 _ ?side1 ?side2 A20.out).mono ?_
  (case side1 => repeat (first | exact (Kd.C_below HR0_2.out HB.out) | exact HR0_2.out | (with_reducible refine Kd.C_alloc ?_ _) | (with_reducible refine Kd.C_drewN ?_ _) | (with_reducible refine Kd.C_drew ?_)))
  (case side2 => exact HC0_2.out)
  rintro e w23 ⟨rfl, hb⟩
  refine ⟨_, rfl, ?_⟩
  have n0_ := Aside0.mk (blk_below (bn0_ BK160.out) hb)
  have n1_ := Aside0.mk (below_step bl_ hb)
  clear BK160
  clear HB
  have BK160 := n0_
  have HB := n1_
  clear n0_ n1_
  (try clear hb)
  (try clear hb2)
  (try clear hk)
  (try clear hi)
  refine hK.out _ _ ⟨(blk_cell BK160.out 0).trans rfl, (blk_cell BK160.out 1).trans rfl, (blk_cell BK160.out 2).trans rfl, (blk_cell BK160.out 3).trans rfl⟩ (fun hHeld => ?_)
  clear hK K
  refine norm_ (a' := ?_) ?_ ?_
  rotate_left
  ·show Act.put _ (some 41) _ = _
   simp only [Act.put, List.setIfInBounds_toArray, List.set_cons_zero, List.set_cons_succ, i64_w, i32_w]
   rfl
  refine pu_ 7 42 HT_ ?_
  refine pu_ 8 2 HT_ ?_
  refine done_ (done_of HT_.out (by kernel_rfl)) ?_
  try go_wp2
  go_ret
  exact ⟨er_, bl_⟩
 rw [if_pos c12] at H
 have c12b0 := decide_eq_true c12
 clear c12
 by_cases c13 : 0 ≤ x3_2
 rotate_left
 ·exact nn_ c13 H
 rw [if_pos c13] at H
 have c13b0 := decide_eq_true c13
 clear c13
 replace H := bs_ H
 obtain ⟨t164, A14, H⟩ := H
 try dsimp only at H
 by_cases c15 : t164.toList = ([] : List UInt8)
 ·rw [if_pos c15] at H
  have c15b0 : (t164.toList == ([] : List UInt8)) = true := beq_iff_eq.mpr c15
  have c15b1 : (t164.toList != ([] : List UInt8)) = false := bne_eq_false_iff_eq.mpr c15
  clear c15
  obtain rfl := Option.some.inj H
  obtain ⟨hcz16_0, hcz16_1, hcz16_2, hcz16_3, hfz16_0, hfz16_1, hfz16_2, hfz16_3⟩ := cf4_ BK160.out
  have p163 : 0 ≤ (x3_2 : Int) := of_decide_eq_true as_
  have q163 : x3_2 < (l0_2.length : Int) := of_decide_eq_true as_
  obtain ⟨ad163, e163, hx163_0, hx163_1, hx163_2, hx163_3, hx163_4, hx163_5⟩ := at_T70 HR0_2.out x3_2 p163 q163
  cases e163
  replace hx163_0 := (HB.out.cell (World.block_lt_of_cell? w _ hx163_0)).trans hx163_0
  replace hx163_1 := (HB.out.cell (World.block_lt_of_cell? w _ hx163_1)).trans hx163_1
  replace hx163_2 := (HB.out.cell (World.block_lt_of_cell? w _ hx163_2)).trans hx163_2
  replace hx163_3 := (HB.out.cell (World.block_lt_of_cell? w _ hx163_3)).trans hx163_3
  replace hx163_4 := (HB.out.cell (World.block_lt_of_cell? w _ hx163_4)).trans hx163_4
  replace hx163_5 := (HB.out.cell (World.block_lt_of_cell? w _ hx163_5)).trans hx163_5
  replace p163 := eq_true p163
  replace q163 := eq_true q163
  go_wp2_with (first | ((with_reducible refine gate_callee (f := 64) rfl ?_); refine gs_ (some 33) Tryd.func64 #[.agg #[.int .i64 ((rd_T70 l0_2 x3_2).f0), .int .i64 ((rd_T70 l0_2 x3_2).f1), .int .i64 ((rd_T70 l0_2 x3_2).f2.f0), .int .i64 ((rd_T70 l0_2 x3_2).f2.f1), .int .i64 ((rd_T70 l0_2 x3_2).f2.f2), .int .i64 ((rd_T70 l0_2 x3_2).f2.f3)]] ?_; (with_reducible refine (spec_EntryText.calls k2 ((rd_T70 l0_2 x3_2).f0) ((rd_T70 l0_2 x3_2).f1) ((rd_T70 l0_2 x3_2).f2.f0) ((rd_T70 l0_2 x3_2).f2.f1) ((rd_T70 l0_2 x3_2).f2.f2) ((rd_T70 l0_2 x3_2).f2.f3) t164 _ A14.out).mono ?_); rintro e w17 ⟨rfl, hb⟩; refine ⟨_, rfl, ?_⟩; replace BK160 := Aside0.mk (blk_below (bn0_ BK160.out) hb); replace HB := Aside0.mk (below_step bl_ hb); (try clear hb)))
  go_ret
  exact ⟨er_, bl_⟩
 rw [if_neg c15] at H
 have c15b0 : (t164.toList == ([] : List UInt8)) = false := beq_eq_false_iff_ne.mpr c15
 have c15b1 : (t164.toList != ([] : List UInt8)) = true := bne_iff_ne.mpr c15
 have H' := Aside0.mk H
 clear H
 obtain ⟨hcz18_0, hcz18_1, hcz18_2, hcz18_3, hfz18_0, hfz18_1, hfz18_2, hfz18_3⟩ := cf4_ BK160.out
 have p163 : 0 ≤ (x3_2 : Int) := of_decide_eq_true as_
 have q163 : x3_2 < (l0_2.length : Int) := of_decide_eq_true as_
 obtain ⟨ad163, e163, hx163_0, hx163_1, hx163_2, hx163_3, hx163_4, hx163_5⟩ := at_T70 HR0_2.out x3_2 p163 q163
 cases e163
 replace hx163_0 := (HB.out.cell (World.block_lt_of_cell? w _ hx163_0)).trans hx163_0
 replace hx163_1 := (HB.out.cell (World.block_lt_of_cell? w _ hx163_1)).trans hx163_1
 replace hx163_2 := (HB.out.cell (World.block_lt_of_cell? w _ hx163_2)).trans hx163_2
 replace hx163_3 := (HB.out.cell (World.block_lt_of_cell? w _ hx163_3)).trans hx163_3
 replace hx163_4 := (HB.out.cell (World.block_lt_of_cell? w _ hx163_4)).trans hx163_4
 replace hx163_5 := (HB.out.cell (World.block_lt_of_cell? w _ hx163_5)).trans hx163_5
 replace p163 := eq_true p163
 replace q163 := eq_true q163
 go_wp2_with (first | ((with_reducible refine gate_callee (f := 64) rfl ?_); refine gs_ (some 33) Tryd.func64 #[.agg #[.int .i64 ((rd_T70 l0_2 x3_2).f0), .int .i64 ((rd_T70 l0_2 x3_2).f1), .int .i64 ((rd_T70 l0_2 x3_2).f2.f0), .int .i64 ((rd_T70 l0_2 x3_2).f2.f1), .int .i64 ((rd_T70 l0_2 x3_2).f2.f2), .int .i64 ((rd_T70 l0_2 x3_2).f2.f3)]] ?_; (with_reducible refine (spec_EntryText.calls k2 ((rd_T70 l0_2 x3_2).f0) ((rd_T70 l0_2 x3_2).f1) ((rd_T70 l0_2 x3_2).f2.f0) ((rd_T70 l0_2 x3_2).f2.f1) ((rd_T70 l0_2 x3_2).f2.f2) ((rd_T70 l0_2 x3_2).f2.f3) t164 _ A14.out).mono ?_); rintro e w19 ⟨rfl, hb⟩; refine ⟨_, rfl, ?_⟩; replace BK160 := Aside0.mk (blk_below (bn0_ BK160.out) hb); replace HB := Aside0.mk (below_step bl_ hb); (try clear hb)))
 go_roundg k2
 case measure => have := HJ1.out; have := HK2.out; omega
 case rel => exact ⟨(wrap64 (x3_2 + 1)), (sr_), H', ⟨by have := HJ1.out; have := HK2.out; omega⟩, ⟨bk_ BK160.out⟩, ⟨bl_⟩⟩


/-! ### spec_LogText: function 74 -/
def spec_LogText.l0 : Nat → List (S70) → ByteArray → Int → Option (ByteArray × Bool)
 | 0, _, _, _ => none
 | k + 1, x0, x4, x5 => if x5 < (x0.length : Int) then (if 0 ≤ x5 then ((spec_EntryText.f k ((rd_T70 x0 x5).f0) ((rd_T70 x0 x5).f1) ((rd_T70 x0 x5).f2.f0) ((rd_T70 x0 x5).f2.f1) ((rd_T70 x0 x5).f2.f2) ((rd_T70 x0 x5).f2.f3)).bind fun t167 => (if t167.toList = ([] : List UInt8) then (some ((⟨#[]⟩ : ByteArray), false)) else ((spec_l01Var.f k (t167.size : Int)).bind fun t168 => (if x4.size + t168.size ≤ 9223372036854775807 then (if (x4 ++ t168).size + t167.size ≤ 9223372036854775807 then (spec_LogText.l0 k x0 ((x4 ++ t168) ++ t167) (wrap64 (x5 + 1))) else (none)) else (none))))) else (none)) else (some (x4, true))
def spec_LogText.f (k : Nat) (l0 : List (S70)) : Option (ByteArray × Bool) := if (l0.length : Int) > 200 then (some ((⟨#[]⟩ : ByteArray), false)) else (spec_LogText.l0 k l0 (⟨#[]⟩ : ByteArray) 0)
theorem spec_LogText.mono_l : ∀ k, (∀ y0 y1 y2, LeO (spec_LogText.l0 k y0 y1 y2) (spec_LogText.l0 (k + 1) y0 y1 y2))
 | 0 => fun _ _ _ r h => by simp [spec_LogText.l0] at h
 | k + 1 => by
  have ih0 := spec_LogText.mono_l k
  ·intro y0 y1 y2
   unfold spec_LogText.l0
   have m0 := @spec_EntryText.mono
   have m1 := @spec_l01Var.mono
   exact mo_
theorem spec_LogText.mono : ∀ a0 k, LeO (spec_LogText.f k a0) (spec_LogText.f (k + 1) a0) := by
 intro a0 k
 have ih0 := spec_LogText.mono_l k
 unfold spec_LogText.f
 have m0 := @spec_EntryText.mono
 have m1 := @spec_l01Var.mono
 exact mo_
set_option maxHeartbeats 8000000 in
set_option maxRecDepth 100000 in
theorem spec_LogText.calls (k : Nat) (A0 : Option Addr) (c0 : Nat) (l0 : List (S70)) (r1 : ByteArray) (r2 : Bool) (w : World) (hr0 : Kd.C k70 w A0 l0.length l0) (hc0 : l0.length ≤ c0) (h : spec_LogText.f k l0 = some (r1, r2)) :
 Calls Tryd.prog 74 #[.slice A0 l0.length c0] w fun e w' => e = .returned (.tuple #[.string r1, .bool r2]) ∧ Below w.heap.size w w' := by
 have hu70 := Tryd.underlying70
 have HR0 := Aside0.mk hr0
 have HC0 := Aside0.mk hc0
 clear hr0 hc0
 have HB := Aside0.mk (Below.refl w.heap.size w)
 have H : (if (l0.length : Int) > 200 then (some ((⟨#[]⟩ : ByteArray), false)) else (spec_LogText.l0 k l0 (⟨#[]⟩ : ByteArray) 0)) = some (r1, r2) := h
 clear h
 by_cases c2 : (l0.length : Int) > 200
 ·rw [if_pos c2] at H
  have c2b0 := decide_eq_true c2
  have c2b1 : decide (200 < l0.length) = true := decide_eq_true (by omega)
  clear c2
  simp only [Option.some.injEq, Prod.mk.injEq] at H
  obtain ⟨rfl, rfl⟩ := H
  go_enter Tryd.func74, Tryd.ntmps74
  go_wp2
  go_ret2
  exact ⟨er_, bl_⟩
 rw [if_neg c2] at H
 have c2b0 := decide_eq_false c2
 have c2b1 : decide (200 < l0.length) = false := decide_eq_false (by omega)
 clear c2
 have H' := Aside0.mk H
 clear H
 go_enter Tryd.func74, Tryd.ntmps74
 go_wp2
 go_loopg [4, 5] k (fun kq v4 v5 w' => ∃ (x4_1 : ByteArray) (x5_1 : Int), v4 = .string x4_1 ∧ v5 = .int .i64 x5_1 ∧ Aside0 (spec_LogText.l0 kq l0 x4_1 x5_1 = some (r1, r2)) ∧ Aside0 (kq ≤ k) ∧ Aside0 (Below w.heap.size w w'))
 case atStart => exact ⟨((⟨#[]⟩ : ByteArray)), (0), (sr_), (sr_), H', ⟨Nat.le_refl _⟩, ⟨bl_⟩⟩
 clear H'
 try clear c2
 try clear c2b0
 try clear c2b1
 obtain ⟨x4_1, x5_1, rfl, rfl, HA, HK1, HB⟩ := hrel
 cases gk with
 | zero => exact absurd HA.out (by simp [spec_LogText.l0])
 | succ k1 => ?_
 have H := HA.out
 clear HA
 simp only [spec_LogText.l0] at H
 by_cases c3 : x5_1 < (l0.length : Int)
 rotate_left
 ·rw [if_neg c3] at H
  have c3b0 := decide_eq_false c3
  clear c3
  simp only [Option.some.injEq, Prod.mk.injEq] at H
  obtain ⟨rfl, rfl⟩ := H
  go_wp2
  go_ret2
  exact ⟨er_, bl_⟩
 rw [if_pos c3] at H
 have c3b0 := decide_eq_true c3
 clear c3
 by_cases c4 : 0 ≤ x5_1
 rotate_left
 ·exact nn_ c4 H
 rw [if_pos c4] at H
 have c4b0 := decide_eq_true c4
 clear c4
 replace H := bs_ H
 obtain ⟨t167, A5, H⟩ := H
 try dsimp only at H
 by_cases c6 : t167.toList = ([] : List UInt8)
 ·rw [if_pos c6] at H
  have c6b0 : (t167.toList == ([] : List UInt8)) = true := beq_iff_eq.mpr c6
  have c6b1 : (t167.toList != ([] : List UInt8)) = false := bne_eq_false_iff_eq.mpr c6
  clear c6
  simp only [Option.some.injEq, Prod.mk.injEq] at H
  obtain ⟨rfl, rfl⟩ := H
  have p166 : 0 ≤ (x5_1 : Int) := of_decide_eq_true as_
  have q166 : x5_1 < (l0.length : Int) := of_decide_eq_true as_
  obtain ⟨ad166, e166, hx166_0, hx166_1, hx166_2, hx166_3, hx166_4, hx166_5⟩ := at_T70 HR0.out x5_1 p166 q166
  cases e166
  replace hx166_0 := (HB.out.cell (World.block_lt_of_cell? w _ hx166_0)).trans hx166_0
  replace hx166_1 := (HB.out.cell (World.block_lt_of_cell? w _ hx166_1)).trans hx166_1
  replace hx166_2 := (HB.out.cell (World.block_lt_of_cell? w _ hx166_2)).trans hx166_2
  replace hx166_3 := (HB.out.cell (World.block_lt_of_cell? w _ hx166_3)).trans hx166_3
  replace hx166_4 := (HB.out.cell (World.block_lt_of_cell? w _ hx166_4)).trans hx166_4
  replace hx166_5 := (HB.out.cell (World.block_lt_of_cell? w _ hx166_5)).trans hx166_5
  replace p166 := eq_true p166
  replace q166 := eq_true q166
  go_wp2_with (first | ((with_reducible refine gate_callee (f := 64) rfl ?_); refine gs_ (some 20) Tryd.func64 #[.agg #[.int .i64 ((rd_T70 l0 x5_1).f0), .int .i64 ((rd_T70 l0 x5_1).f1), .int .i64 ((rd_T70 l0 x5_1).f2.f0), .int .i64 ((rd_T70 l0 x5_1).f2.f1), .int .i64 ((rd_T70 l0 x5_1).f2.f2), .int .i64 ((rd_T70 l0 x5_1).f2.f3)]] ?_; (with_reducible refine (spec_EntryText.calls k1 ((rd_T70 l0 x5_1).f0) ((rd_T70 l0 x5_1).f1) ((rd_T70 l0 x5_1).f2.f0) ((rd_T70 l0 x5_1).f2.f1) ((rd_T70 l0 x5_1).f2.f2) ((rd_T70 l0 x5_1).f2.f3) t167 _ A5.out).mono ?_); rintro e w7 ⟨rfl, hb⟩; refine ⟨_, rfl, ?_⟩; replace HB := Aside0.mk (below_step bl_ hb); (try clear hb)))
  go_ret2
  exact ⟨er_, bl_⟩
 rw [if_neg c6] at H
 have c6b0 : (t167.toList == ([] : List UInt8)) = false := beq_eq_false_iff_ne.mpr c6
 have c6b1 : (t167.toList != ([] : List UInt8)) = true := bne_iff_ne.mpr c6
 replace H := bs_ H
 obtain ⟨t168, A8, H⟩ := H
 try dsimp only at H
 by_cases c9 : x4_1.size + t168.size ≤ 9223372036854775807
 rotate_left
 ·exact nn_ c9 H
 rw [if_pos c9] at H
 have c9b0 := eq_true c9
 have c9b1 : decide (x4_1.size + t168.size ≤ 9223372036854775807) = true := decide_eq_true c9
 try have c9b2 : (9223372036854775807 < x4_1.size + t168.size) = False := eq_false (Nat.not_lt.2 c9)
 by_cases c10 : (x4_1 ++ t168).size + t167.size ≤ 9223372036854775807
 rotate_left
 ·exact nn_ c10 H
 rw [if_pos c10] at H
 have c10b0 := eq_true c10
 have c10b1 : decide ((x4_1 ++ t168).size + t167.size ≤ 9223372036854775807) = true := decide_eq_true c10
 try have c10b2 : (9223372036854775807 < (x4_1 ++ t168).size + t167.size) = False := eq_false (Nat.not_lt.2 c10)
 try have c10b3 : (9223372036854775807 < x4_1.size + t168.size + t167.size) = False := eq_false (by have h_ := c10; (repeat rw [ByteArray.size_append] at h_); exact Nat.not_lt.2 h_)
 have H' := Aside0.mk H
 clear H
 have p166 : 0 ≤ (x5_1 : Int) := of_decide_eq_true as_
 have q166 : x5_1 < (l0.length : Int) := of_decide_eq_true as_
 obtain ⟨ad166, e166, hx166_0, hx166_1, hx166_2, hx166_3, hx166_4, hx166_5⟩ := at_T70 HR0.out x5_1 p166 q166
 cases e166
 replace hx166_0 := (HB.out.cell (World.block_lt_of_cell? w _ hx166_0)).trans hx166_0
 replace hx166_1 := (HB.out.cell (World.block_lt_of_cell? w _ hx166_1)).trans hx166_1
 replace hx166_2 := (HB.out.cell (World.block_lt_of_cell? w _ hx166_2)).trans hx166_2
 replace hx166_3 := (HB.out.cell (World.block_lt_of_cell? w _ hx166_3)).trans hx166_3
 replace hx166_4 := (HB.out.cell (World.block_lt_of_cell? w _ hx166_4)).trans hx166_4
 replace hx166_5 := (HB.out.cell (World.block_lt_of_cell? w _ hx166_5)).trans hx166_5
 replace p166 := eq_true p166
 replace q166 := eq_true q166
 go_wp2_with (first | ((with_reducible refine gate_callee (f := 64) rfl ?_); refine gs_ (some 20) Tryd.func64 #[.agg #[.int .i64 ((rd_T70 l0 x5_1).f0), .int .i64 ((rd_T70 l0 x5_1).f1), .int .i64 ((rd_T70 l0 x5_1).f2.f0), .int .i64 ((rd_T70 l0 x5_1).f2.f1), .int .i64 ((rd_T70 l0 x5_1).f2.f2), .int .i64 ((rd_T70 l0 x5_1).f2.f3)]] ?_; (with_reducible refine (spec_EntryText.calls k1 ((rd_T70 l0 x5_1).f0) ((rd_T70 l0 x5_1).f1) ((rd_T70 l0 x5_1).f2.f0) ((rd_T70 l0 x5_1).f2.f1) ((rd_T70 l0 x5_1).f2.f2) ((rd_T70 l0 x5_1).f2.f3) t167 _ A5.out).mono ?_); rintro e w11 ⟨rfl, hb⟩; refine ⟨_, rfl, ?_⟩; replace HB := Aside0.mk (below_step bl_ hb); (try clear hb)) | ((with_reducible refine gate_callee (f := 76) rfl ?_); refine gs_ (some 26) Tryd.func76 #[.int .i64 (t167.size : Int)] ?_; (with_reducible refine (spec_l01Var.calls k1 (t167.size : Int) t168 _ A8.out).mono ?_); rintro e w12 ⟨rfl, hb⟩; refine ⟨_, rfl, ?_⟩; replace HB := Aside0.mk (below_step bl_ hb); (try clear hb)))
 go_roundg k1
 case measure => have := HK1.out; omega
 case rel => exact ⟨((x4_1 ++ t168) ++ t167), (wrap64 (x5_1 + 1)), (sr_), (sr_), H', ⟨by have := HK1.out; omega⟩, ⟨bl_⟩⟩

end Go.Proofs.YtdhjolglbcoijaaDoor.PA

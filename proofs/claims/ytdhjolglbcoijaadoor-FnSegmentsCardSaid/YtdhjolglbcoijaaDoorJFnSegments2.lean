/- Contracts of functions of the program and of the reference, and plain lemmas on what they compute: a part of the proof of the law FnSegments. No condition. -/
import Derived.Test.YtdhjolglbcoijaaDoorG88178x0
import Derived.Test.YtdhjolglbcoijaaDoorJFnSegments1
import Derived.Test.YtdhjolglbcoijaaDoorShortV
set_option maxHeartbeats 8000000
set_option maxRecDepth 100000
namespace Go.Proofs.YtdhjolglbcoijaaDoor.PA
open Go.RowKit Go.Proofs.YtdhjolglbcoijaaDoor.Short Go.Proofs.YtdhjolglbcoijaaDoorW.PrintWords Go.Proofs.YtdhjolglbcoijaaDoorW.PrintLast Go.Proofs.YtdhjolglbcoijaaDoorW.PrintMore
attribute [local go_sem] max2_int min2_int max_two min_two max_three min_three max_four min_four   -- for this text's walks alone
set_option linter.unusedVariables false
set_option linter.unusedSimpArgs false

attribute [local go_sem high] eqA70
def laws_sameEntries.l0 : Nat → List (S70) → List (S70) → Int → Option (Bool)
 | 0, _, _, _ => none
 | k + 1, x0, x1, x5 => if x5 < (x0.length : Int) then (if 0 ≤ x5 then (if x5 < (x1.length : Int) then (if (!(((rd_T70 x0 x5).f0) == ((rd_T70 x1 x5).f0)) || (!(((rd_T70 x0 x5).f1) == ((rd_T70 x1 x5).f1)) || ((!(((rd_T70 x0 x5).f2.f0) == ((rd_T70 x1 x5).f2.f0)) || (!(((rd_T70 x0 x5).f2.f1) == ((rd_T70 x1 x5).f2.f1)) || (!(((rd_T70 x0 x5).f2.f2) == ((rd_T70 x1 x5).f2.f2)) || (!(((rd_T70 x0 x5).f2.f3) == ((rd_T70 x1 x5).f2.f3))))))))) = true then (some false) else (laws_sameEntries.l0 k x0 x1 (wrap64 (x5 + 1)))) else (none)) else (none)) else (some true)
def laws_sameEntries.f (k : Nat) (l0 : List (S70)) (l1 : List (S70)) : Option (Bool) := if (l0.length : Int) = (l1.length : Int) then (laws_sameEntries.l0 k l0 l1 0) else (some false)
theorem laws_sameEntries.mono_l : ∀ k, (∀ y0 y1 y2, LeO (laws_sameEntries.l0 k y0 y1 y2) (laws_sameEntries.l0 (k + 1) y0 y1 y2))
 | 0 => fun _ _ _ r h => by simp [laws_sameEntries.l0] at h
 | k + 1 => by
  have ih0 := laws_sameEntries.mono_l k
  ·intro y0 y1 y2
   unfold laws_sameEntries.l0
   exact mo_
theorem laws_sameEntries.mono : ∀ a0 a1 k, LeO (laws_sameEntries.f k a0 a1) (laws_sameEntries.f (k + 1) a0 a1) := by
 intro a0 a1 k
 have ih0 := laws_sameEntries.mono_l k
 unfold laws_sameEntries.f
 exact mo_
theorem laws_sameEntries.calls (k : Nat) (A0 : Option Addr) (c0 : Nat) (l0 : List (S70)) (A1 : Option Addr) (c1 : Nat) (l1 : List (S70)) (r : Bool) (w : World) (hr0 : Kd.C k70 w A0 l0.length l0) (hc0 : l0.length ≤ c0) (hr1 : Kd.C k70 w A1 l1.length l1) (hc1 : l1.length ≤ c1) (h : laws_sameEntries.f k l0 l1 = some r) :
 Calls Tryd.prog 66 #[.slice A0 l0.length c0, .slice A1 l1.length c1] w fun e w' => e = .returned (.bool r) ∧ Drawn0 w w' := by
 have hu70 := Tryd.underlying70
 have HR0 := Aside0.mk hr0
 have HC0 := Aside0.mk hc0
 clear hr0 hc0
 have HR1 := Aside0.mk hr1
 have HC1 := Aside0.mk hc1
 clear hr1 hc1
 have H := h
 unfold laws_sameEntries.f at H
 clear h
 by_cases c3 : (l0.length : Int) = (l1.length : Int)
 rotate_left
 ·rw [if_neg c3] at H
  have c3b0 : ((l0.length : Int) == (l1.length : Int)) = false := beq_eq_false_iff_ne.mpr c3
  have c3b1 : ((l0.length : Int) != (l1.length : Int)) = true := bne_iff_ne.mpr c3
  have c3b2 : (l0.length == l1.length) = false := by first | simpa using c3 | (simp at c3 ⊢; omega)
  obtain rfl := Option.some.inj H
  go_enter Tryd.func66, Tryd.ntmps66
  go_wp2
  repeat (go_quiet (fail); try go_wp2)
  go_ret
  exact ⟨sr_, by repeat (first | exact Drawn0.refl _ | apply Drawn0.step)⟩
 rw [if_pos c3] at H
 have c3b0 : ((l0.length : Int) == (l1.length : Int)) = true := beq_iff_eq.mpr c3
 have c3b1 : ((l0.length : Int) != (l1.length : Int)) = false := bne_eq_false_iff_eq.mpr c3
 have c3b2 : (l0.length == l1.length) = true := by first | simpa using c3 | (simp at c3 ⊢; omega)
 clear c3
 have H' := Aside0.mk H
 clear H
 go_enter Tryd.func66, Tryd.ntmps66
 go_wp2
 repeat (go_quiet (fail); try go_wp2)
 go_loopg [5] k (fun kq v5 w' => ∃ (x5_1 : Int), v5 = .int .i64 x5_1 ∧ Aside0 (laws_sameEntries.l0 kq l0 l1 x5_1 = some r) ∧ Aside0 (kq ≤ k) ∧ Drawn0 w w')
 case atStart => exact ⟨(0), (sr_), H', ⟨Nat.le_refl _⟩, by repeat (first | exact Drawn0.refl _ | apply Drawn0.step)⟩
 clear H'
 try clear c1
 try clear c3
 try clear c3b0
 try clear c3b1
 try clear c3b2
 obtain ⟨x5_1, rfl, HA, HK1, ⟨m1, rfl⟩⟩ := hrel
 cases gk with
 | zero => exact absurd HA.out (by simp [laws_sameEntries.l0])
 | succ k1 => ?_
 have H := HA.out
 clear HA
 simp only [laws_sameEntries.l0] at H
 by_cases c4 : x5_1 < (l0.length : Int)
 rotate_left
 ·rw [if_neg c4] at H
  have c4b0 := decide_eq_false c4
  clear c4
  obtain rfl := Option.some.inj H
  go_wp2
  repeat (go_quiet (fail); try go_wp2)
  go_ret
  exact ⟨sr_, by repeat (first | exact Drawn0.refl _ | apply Drawn0.step)⟩
 rw [if_pos c4] at H
 have c4b0 := decide_eq_true c4
 clear c4
 by_cases c5 : 0 ≤ x5_1
 rotate_left
 ·exact nn_ c5 H
 rw [if_pos c5] at H
 have c5b0 := decide_eq_true c5
 clear c5
 by_cases c6 : x5_1 < (l1.length : Int)
 rotate_left
 ·exact nn_ c6 H
 rw [if_pos c6] at H
 have c6b0 := decide_eq_true c6
 clear c6
 by_cases c7 : (!(((rd_T70 l0 x5_1).f0) == ((rd_T70 l1 x5_1).f0)) || (!(((rd_T70 l0 x5_1).f1) == ((rd_T70 l1 x5_1).f1)) || ((!(((rd_T70 l0 x5_1).f2.f0) == ((rd_T70 l1 x5_1).f2.f0)) || (!(((rd_T70 l0 x5_1).f2.f1) == ((rd_T70 l1 x5_1).f2.f1)) || (!(((rd_T70 l0 x5_1).f2.f2) == ((rd_T70 l1 x5_1).f2.f2)) || (!(((rd_T70 l0 x5_1).f2.f3) == ((rd_T70 l1 x5_1).f2.f3))))))))) = true
 ·rw [if_pos c7] at H
  have c7b0 : (!(((rd_T70 l0 x5_1).f0) == ((rd_T70 l1 x5_1).f0)) || (!(((rd_T70 l0 x5_1).f1) == ((rd_T70 l1 x5_1).f1)) || ((!(((rd_T70 l0 x5_1).f2.f0) == ((rd_T70 l1 x5_1).f2.f0)) || (!(((rd_T70 l0 x5_1).f2.f1) == ((rd_T70 l1 x5_1).f2.f1)) || (!(((rd_T70 l0 x5_1).f2.f2) == ((rd_T70 l1 x5_1).f2.f2)) || (!(((rd_T70 l0 x5_1).f2.f3) == ((rd_T70 l1 x5_1).f2.f3))))))))) = true := c7
  clear c7
  obtain rfl := Option.some.inj H
  have p733 : 0 ≤ (x5_1 : Int) := of_decide_eq_true as_
  have q733 : x5_1 < (l0.length : Int) := of_decide_eq_true as_
  obtain ⟨ad733, e733, hx733_0, hx733_1, hx733_2, hx733_3, hx733_4, hx733_5⟩ := at_T70 HR0.out x5_1 p733 q733
  cases e733
  replace p733 := eq_true p733
  replace q733 := eq_true q733
  have p734 : 0 ≤ (x5_1 : Int) := of_decide_eq_true as_
  have q734 : x5_1 < (l1.length : Int) := of_decide_eq_true as_
  obtain ⟨ad734, e734, hx734_0, hx734_1, hx734_2, hx734_3, hx734_4, hx734_5⟩ := at_T70 HR1.out x5_1 p734 q734
  cases e734
  replace p734 := eq_true p734
  replace q734 := eq_true q734
  go_wp2
  repeat (go_quiet (fail); try go_wp2)
  go_ret
  exact ⟨sr_, by repeat (first | exact Drawn0.refl _ | apply Drawn0.step)⟩
 rw [if_neg c7] at H
 have c7b0 : (!(((rd_T70 l0 x5_1).f0) == ((rd_T70 l1 x5_1).f0)) || (!(((rd_T70 l0 x5_1).f1) == ((rd_T70 l1 x5_1).f1)) || ((!(((rd_T70 l0 x5_1).f2.f0) == ((rd_T70 l1 x5_1).f2.f0)) || (!(((rd_T70 l0 x5_1).f2.f1) == ((rd_T70 l1 x5_1).f2.f1)) || (!(((rd_T70 l0 x5_1).f2.f2) == ((rd_T70 l1 x5_1).f2.f2)) || (!(((rd_T70 l0 x5_1).f2.f3) == ((rd_T70 l1 x5_1).f2.f3))))))))) = false := by simpa using c7
 clear c7
 have H' := Aside0.mk H
 clear H
 have p733 : 0 ≤ (x5_1 : Int) := of_decide_eq_true as_
 have q733 : x5_1 < (l0.length : Int) := of_decide_eq_true as_
 obtain ⟨ad733, e733, hx733_0, hx733_1, hx733_2, hx733_3, hx733_4, hx733_5⟩ := at_T70 HR0.out x5_1 p733 q733
 cases e733
 replace p733 := eq_true p733
 replace q733 := eq_true q733
 have p734 : 0 ≤ (x5_1 : Int) := of_decide_eq_true as_
 have q734 : x5_1 < (l1.length : Int) := of_decide_eq_true as_
 obtain ⟨ad734, e734, hx734_0, hx734_1, hx734_2, hx734_3, hx734_4, hx734_5⟩ := at_T70 HR1.out x5_1 p734 q734
 cases e734
 replace p734 := eq_true p734
 replace q734 := eq_true q734
 go_wp2
 repeat (go_quiet (fail); try go_wp2)
 go_roundg k1
 case measure => have := HK1.out; omega
 case rel => exact ⟨(wrap64 (x5_1 + 1)), (sr_), H', ⟨by have := HK1.out; omega⟩, by repeat (first | exact Drawn0.refl _ | apply Drawn0.step)⟩


def laws_sameSegment.f (k : Nat) (a0_0 : Int) (a0_1 : ByteArray) (l0_2 : List (S70)) (a0_3 : ByteArray) (a1_0 : Int) (a1_1 : ByteArray) (l1_2 : List (S70)) (a1_3 : ByteArray) : Option (Bool) := if a0_0 = a1_0 then (if a0_1.toList = a1_1.toList then (if a0_3.toList = a1_3.toList then ((laws_sameEntries.f k l0_2 l1_2).bind fun t737 => (some t737)) else (some false)) else (some false)) else (some false)
theorem laws_sameSegment.mono : ∀ a0 a1 a2 a3 a4 a5 a6 a7 k, LeO (laws_sameSegment.f k a0 a1 a2 a3 a4 a5 a6 a7) (laws_sameSegment.f (k + 1) a0 a1 a2 a3 a4 a5 a6 a7) := by
 intro a0 a1 a2 a3 a4 a5 a6 a7 k
 unfold laws_sameSegment.f
 have m0 := @laws_sameEntries.mono
 exact mo_
theorem laws_sameSegment.calls (k : Nat) (a0_0 : Int) (a0_1 : ByteArray) (A0_2 : Option Addr) (c0_2 : Nat) (l0_2 : List (S70)) (a0_3 : ByteArray) (a1_0 : Int) (a1_1 : ByteArray) (A1_2 : Option Addr) (c1_2 : Nat) (l1_2 : List (S70)) (a1_3 : ByteArray) (r : Bool) (w : World) (hr0_2 : Kd.C k70 w A0_2 l0_2.length l0_2) (hc0_2 : l0_2.length ≤ c0_2) (hr1_2 : Kd.C k70 w A1_2 l1_2.length l1_2) (hc1_2 : l1_2.length ≤ c1_2) (h : laws_sameSegment.f k a0_0 a0_1 l0_2 a0_3 a1_0 a1_1 l1_2 a1_3 = some r) :
 Calls Tryd.prog 67 #[.agg #[.int .i64 a0_0, .string a0_1, .slice A0_2 l0_2.length c0_2, .string a0_3], .agg #[.int .i64 a1_0, .string a1_1, .slice A1_2 l1_2.length c1_2, .string a1_3]] w fun e w' => e = .returned (.bool r) ∧ Below w.heap.size w w' := by
 have hu30 := Tryd.underlying30
 have HR0_2 := Aside0.mk hr0_2
 have HC0_2 := Aside0.mk hc0_2
 clear hr0_2 hc0_2
 have HR1_2 := Aside0.mk hr1_2
 have HC1_2 := Aside0.mk hc1_2
 clear hr1_2 hc1_2
 have HB := Aside0.mk (Below.refl w.heap.size w)
 have H := h
 unfold laws_sameSegment.f at H
 clear h
 by_cases c3 : a0_0 = a1_0
 rotate_left
 ·rw [if_neg c3] at H
  have c3b0 : (a0_0 == a1_0) = false := beq_eq_false_iff_ne.mpr c3
  have c3b1 : (a0_0 != a1_0) = true := bne_iff_ne.mpr c3
  obtain rfl := Option.some.inj H
  go_enter Tryd.func67, Tryd.ntmps67
  go_wp2_with (first | ((with_reducible refine gate_dst (N := 2) rfl ?_); refine bx_ 2 30 #[.int .i64 a0_0, .string a0_1, .slice A0_2 l0_2.length c0_2, .string a0_3] ?_; intro gb735 hg w22 hbox hb; have BK735 := Aside0.mk (hbox); have GW735 := Aside0.mk ((hz_ : w.heap.size ≤ gb735)); have GE735 := Aside0.mk ((hz_ : w.heap.size ≤ gb735)); replace HB := Aside0.mk (below_step bl_ hb); clear hb hbox hg) | ((with_reducible refine gate_dst (N := 3) rfl ?_); refine bx_ 3 30 #[.int .i64 a1_0, .string a1_1, .slice A1_2 l1_2.length c1_2, .string a1_3] ?_; intro gb736 hg w23 hbox hb; have BK736 := Aside0.mk (hbox); have GW736 := Aside0.mk ((hz_ : w.heap.size ≤ gb736)); have GE736 := Aside0.mk ((hz_ : w.heap.size ≤ gb736)); replace HB := Aside0.mk (below_step bl_ hb); have NB735_736 := Aside0.mk ((by rw [hg]; exact Nat.ne_of_lt (blk_lt (g := gb735) (o := .cells #[.int .i64 a0_0, .string a0_1, .slice A0_2 l0_2.length c0_2, .string a0_3] 30 (0, 0)) (bk_ BK735.out)) : gb735 ≠ gb736)); have NB736_735 := Aside0.mk ((by rw [hg]; exact Nat.ne_of_gt (blk_lt (g := gb735) (o := .cells #[.int .i64 a0_0, .string a0_1, .slice A0_2 l0_2.length c0_2, .string a0_3] 30 (0, 0)) (bk_ BK735.out)) : gb736 ≠ gb735)); replace BK735 := Aside0.mk (blk_below (bn0_ BK735.out) hb); clear hb hbox hg; have hnb24 := NB735_736.out; have hnc24 := NB736_735.out; obtain ⟨hcz25_0, hcz25_1, hcz25_2, hcz25_3, hfz25_0, hfz25_1, hfz25_2, hfz25_3⟩ := cf4_ BK735.out; obtain ⟨hcz26_0, hcz26_1, hcz26_2, hcz26_3, hfz26_0, hfz26_1, hfz26_2, hfz26_3⟩ := cf4_ BK736.out))
  go_ret
  exact ⟨er_, bl_⟩
 rw [if_pos c3] at H
 have c3b0 : (a0_0 == a1_0) = true := beq_iff_eq.mpr c3
 have c3b1 : (a0_0 != a1_0) = false := bne_eq_false_iff_eq.mpr c3
 clear c3
 by_cases c4 : a0_1.toList = a1_1.toList
 rotate_left
 ·rw [if_neg c4] at H
  have c4b0 : (a0_1.toList == a1_1.toList) = false := beq_eq_false_iff_ne.mpr c4
  have c4b1 : (a0_1.toList != a1_1.toList) = true := bne_iff_ne.mpr c4
  obtain rfl := Option.some.inj H
  go_enter Tryd.func67, Tryd.ntmps67
  go_wp2_with (first | ((with_reducible refine gate_dst (N := 2) rfl ?_); refine bx_ 2 30 #[.int .i64 a0_0, .string a0_1, .slice A0_2 l0_2.length c0_2, .string a0_3] ?_; intro gb735 hg w17 hbox hb; have BK735 := Aside0.mk (hbox); have GW735 := Aside0.mk ((hz_ : w.heap.size ≤ gb735)); have GE735 := Aside0.mk ((hz_ : w.heap.size ≤ gb735)); replace HB := Aside0.mk (below_step bl_ hb); clear hb hbox hg) | ((with_reducible refine gate_dst (N := 3) rfl ?_); refine bx_ 3 30 #[.int .i64 a1_0, .string a1_1, .slice A1_2 l1_2.length c1_2, .string a1_3] ?_; intro gb736 hg w18 hbox hb; have BK736 := Aside0.mk (hbox); have GW736 := Aside0.mk ((hz_ : w.heap.size ≤ gb736)); have GE736 := Aside0.mk ((hz_ : w.heap.size ≤ gb736)); replace HB := Aside0.mk (below_step bl_ hb); have NB735_736 := Aside0.mk ((by rw [hg]; exact Nat.ne_of_lt (blk_lt (g := gb735) (o := .cells #[.int .i64 a0_0, .string a0_1, .slice A0_2 l0_2.length c0_2, .string a0_3] 30 (0, 0)) (bk_ BK735.out)) : gb735 ≠ gb736)); have NB736_735 := Aside0.mk ((by rw [hg]; exact Nat.ne_of_gt (blk_lt (g := gb735) (o := .cells #[.int .i64 a0_0, .string a0_1, .slice A0_2 l0_2.length c0_2, .string a0_3] 30 (0, 0)) (bk_ BK735.out)) : gb736 ≠ gb735)); replace BK735 := Aside0.mk (blk_below (bn0_ BK735.out) hb); clear hb hbox hg; have hnb19 := NB735_736.out; have hnc19 := NB736_735.out; obtain ⟨hcz20_0, hcz20_1, hcz20_2, hcz20_3, hfz20_0, hfz20_1, hfz20_2, hfz20_3⟩ := cf4_ BK735.out; obtain ⟨hcz21_0, hcz21_1, hcz21_2, hcz21_3, hfz21_0, hfz21_1, hfz21_2, hfz21_3⟩ := cf4_ BK736.out))
  go_ret
  exact ⟨er_, bl_⟩
 rw [if_pos c4] at H
 have c4b0 : (a0_1.toList == a1_1.toList) = true := beq_iff_eq.mpr c4
 have c4b1 : (a0_1.toList != a1_1.toList) = false := bne_eq_false_iff_eq.mpr c4
 clear c4
 by_cases c5 : a0_3.toList = a1_3.toList
 rotate_left
 ·rw [if_neg c5] at H
  have c5b0 : (a0_3.toList == a1_3.toList) = false := beq_eq_false_iff_ne.mpr c5
  have c5b1 : (a0_3.toList != a1_3.toList) = true := bne_iff_ne.mpr c5
  obtain rfl := Option.some.inj H
  go_enter Tryd.func67, Tryd.ntmps67
  go_wp2_with (first | ((with_reducible refine gate_dst (N := 2) rfl ?_); refine bx_ 2 30 #[.int .i64 a0_0, .string a0_1, .slice A0_2 l0_2.length c0_2, .string a0_3] ?_; intro gb735 hg w12 hbox hb; have BK735 := Aside0.mk (hbox); have GW735 := Aside0.mk ((hz_ : w.heap.size ≤ gb735)); have GE735 := Aside0.mk ((hz_ : w.heap.size ≤ gb735)); replace HB := Aside0.mk (below_step bl_ hb); clear hb hbox hg) | ((with_reducible refine gate_dst (N := 3) rfl ?_); refine bx_ 3 30 #[.int .i64 a1_0, .string a1_1, .slice A1_2 l1_2.length c1_2, .string a1_3] ?_; intro gb736 hg w13 hbox hb; have BK736 := Aside0.mk (hbox); have GW736 := Aside0.mk ((hz_ : w.heap.size ≤ gb736)); have GE736 := Aside0.mk ((hz_ : w.heap.size ≤ gb736)); replace HB := Aside0.mk (below_step bl_ hb); have NB735_736 := Aside0.mk ((by rw [hg]; exact Nat.ne_of_lt (blk_lt (g := gb735) (o := .cells #[.int .i64 a0_0, .string a0_1, .slice A0_2 l0_2.length c0_2, .string a0_3] 30 (0, 0)) (bk_ BK735.out)) : gb735 ≠ gb736)); have NB736_735 := Aside0.mk ((by rw [hg]; exact Nat.ne_of_gt (blk_lt (g := gb735) (o := .cells #[.int .i64 a0_0, .string a0_1, .slice A0_2 l0_2.length c0_2, .string a0_3] 30 (0, 0)) (bk_ BK735.out)) : gb736 ≠ gb735)); replace BK735 := Aside0.mk (blk_below (bn0_ BK735.out) hb); clear hb hbox hg; have hnb14 := NB735_736.out; have hnc14 := NB736_735.out; obtain ⟨hcz15_0, hcz15_1, hcz15_2, hcz15_3, hfz15_0, hfz15_1, hfz15_2, hfz15_3⟩ := cf4_ BK735.out; obtain ⟨hcz16_0, hcz16_1, hcz16_2, hcz16_3, hfz16_0, hfz16_1, hfz16_2, hfz16_3⟩ := cf4_ BK736.out))
  go_ret
  exact ⟨er_, bl_⟩
 rw [if_pos c5] at H
 have c5b0 : (a0_3.toList == a1_3.toList) = true := beq_iff_eq.mpr c5
 have c5b1 : (a0_3.toList != a1_3.toList) = false := bne_eq_false_iff_eq.mpr c5
 clear c5
 replace H := bs_ H
 obtain ⟨t737, A6, H⟩ := H
 try dsimp only at H
 obtain rfl := Option.some.inj H
 go_enter Tryd.func67, Tryd.ntmps67
 go_wp2_with (first | ((with_reducible refine gate_dst (N := 2) rfl ?_); refine bx_ 2 30 #[.int .i64 a0_0, .string a0_1, .slice A0_2 l0_2.length c0_2, .string a0_3] ?_; intro gb735 hg w7 hbox hb; have BK735 := Aside0.mk (hbox); have GW735 := Aside0.mk ((hz_ : w.heap.size ≤ gb735)); have GE735 := Aside0.mk ((hz_ : w.heap.size ≤ gb735)); replace HB := Aside0.mk (below_step bl_ hb); clear hb hbox hg) | ((with_reducible refine gate_dst (N := 3) rfl ?_); refine bx_ 3 30 #[.int .i64 a1_0, .string a1_1, .slice A1_2 l1_2.length c1_2, .string a1_3] ?_; intro gb736 hg w8 hbox hb; have BK736 := Aside0.mk (hbox); have GW736 := Aside0.mk ((hz_ : w.heap.size ≤ gb736)); have GE736 := Aside0.mk ((hz_ : w.heap.size ≤ gb736)); replace HB := Aside0.mk (below_step bl_ hb); have NB735_736 := Aside0.mk ((by rw [hg]; exact Nat.ne_of_lt (blk_lt (g := gb735) (o := .cells #[.int .i64 a0_0, .string a0_1, .slice A0_2 l0_2.length c0_2, .string a0_3] 30 (0, 0)) (bk_ BK735.out)) : gb735 ≠ gb736)); have NB736_735 := Aside0.mk ((by rw [hg]; exact Nat.ne_of_gt (blk_lt (g := gb735) (o := .cells #[.int .i64 a0_0, .string a0_1, .slice A0_2 l0_2.length c0_2, .string a0_3] 30 (0, 0)) (bk_ BK735.out)) : gb736 ≠ gb735)); replace BK735 := Aside0.mk (blk_below (bn0_ BK735.out) hb); clear hb hbox hg; have hnb9 := NB735_736.out; have hnc9 := NB736_735.out; obtain ⟨hcz10_0, hcz10_1, hcz10_2, hcz10_3, hfz10_0, hfz10_1, hfz10_2, hfz10_3⟩ := cf4_ BK735.out; have hcz11_0 : w8.cell? ⟨gb736, 0, none⟩ = some (.int .i64 a1_0) := (blk_cell BK736.out 0).trans rfl; have hcz11_1 : w8.cell? ⟨gb736, 1, none⟩ = some (.string a1_1) := (blk_cell BK736.out 1).trans rfl; have hcz11_2 : w8.cell? ⟨gb736, 2, none⟩ = some (.slice A1_2 l1_2.length c1_2) := (blk_cell BK736.out 2).trans rfl; have hcz11_3 : w8.cell? ⟨gb736, 3, none⟩ = some (.string a1_3) := (blk_cell BK736.out 3).trans rfl; have hfz11_0 := blk_frozen BK736.out 0; have hfz11_1 := blk_frozen BK736.out 1; have hfz11_2 := blk_frozen BK736.out 2; have hfz11_3 := blk_frozen BK736.out 3) | (go_at_call 66; (with_reducible refine (laws_sameEntries.calls k _ _ l0_2 _ _ l1_2 t737 _ ?side1 ?side2 ?side3 ?side4 A6.out).mono ?_); (case side1 => exact cb_ HR0_2.out HB.out); (case side2 => exact HC0_2.out); (case side3 => exact cb_ HR1_2.out HB.out); (case side4 => exact HC1_2.out); rintro e w' ⟨rfl, ⟨nd, rfl⟩⟩))
 go_ret
 exact ⟨er_, bl_⟩

end Go.Proofs.YtdhjolglbcoijaaDoor.PA

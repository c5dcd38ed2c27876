/- Contracts of functions of the program and of the reference, and plain lemmas on what they compute: a part of the proof of the law FnExactReadScript. No condition. -/
import Derived.Test.YtjfmpodeenidnaaJFnExactReadScript1
import Derived.Test.YtjfmpodeenidnaaJFnExactReadScript8
import Derived.Test.YtjfmpodeenidnaaJFnExactReadScript4
import Derived.Test.YtjfmpodeenidnaaV0
import Derived.Test.YtjfmpodeenidnaaShortV
set_option maxHeartbeats 8000000
set_option maxRecDepth 100000
namespace Go.Proofs.Ytjfmpodeenidnaa.PA
open Go.RowKit Go.Proofs.Ytjfmpodeenidnaa.Short Go.Proofs.YtjfmpodeenidnaaW.PrintWords Go.Proofs.YtjfmpodeenidnaaW.PrintLast Go.Proofs.YtjfmpodeenidnaaW.PrintMore
attribute [local go_sem] max2_int min2_int max_two min_two max_three min_three max_four min_four   -- for this text's walks alone
set_option linter.unusedVariables false
set_option linter.unusedSimpArgs false

def laws_eqEvent.f (k : Nat) (a0_0 : Int) (a0_1 : Int) (a0_2 : Int) (a0_3 : Int) (a0_4 : Int) (l0_5 : List (S98)) (a0_6 : ByteArray) (a1_0 : Int) (a1_1 : Int) (a1_2 : Int) (a1_3 : Int) (a1_4 : Int) (l1_5 : List (S98)) (a1_6 : ByteArray) : Option (Bool) := if a0_0 = a1_0 then (if a0_1 = a1_1 then (if a0_2 = a1_2 then ((laws_eqCall.f k a0_3 a0_4 l0_5 a1_3 a1_4 l1_5).bind fun t414 => (if t414 = true then (if a0_6.toList = a1_6.toList then (some true) else (some false)) else (some false))) else (some false)) else (some false)) else (some false)
theorem laws_eqEvent.mono : ∀ a0 a1 a2 a3 a4 a5 a6 a7 a8 a9 a10 a11 a12 a13 k, LeO (laws_eqEvent.f k a0 a1 a2 a3 a4 a5 a6 a7 a8 a9 a10 a11 a12 a13) (laws_eqEvent.f (k + 1) a0 a1 a2 a3 a4 a5 a6 a7 a8 a9 a10 a11 a12 a13) := by
 intro a0 a1 a2 a3 a4 a5 a6 a7 a8 a9 a10 a11 a12 a13 k
 unfold laws_eqEvent.f
 have m0 := @laws_eqCall.mono
 exact mo_
theorem laws_eqEvent.calls (k : Nat) (a0_0 : Int) (a0_1 : Int) (a0_2 : Int) (a0_3 : Int) (a0_4 : Int) (A0_5 : Option Addr) (c0_5 : Nat) (l0_5 : List (S98)) (a0_6 : ByteArray) (a1_0 : Int) (a1_1 : Int) (a1_2 : Int) (a1_3 : Int) (a1_4 : Int) (A1_5 : Option Addr) (c1_5 : Nat) (l1_5 : List (S98)) (a1_6 : ByteArray) (r : Bool) (w : World) (hr0_5 : Kd.C k98 w A0_5 l0_5.length l0_5) (hc0_5 : l0_5.length ≤ c0_5) (hr1_5 : Kd.C k98 w A1_5 l1_5.length l1_5) (hc1_5 : l1_5.length ≤ c1_5) (h : laws_eqEvent.f k a0_0 a0_1 a0_2 a0_3 a0_4 l0_5 a0_6 a1_0 a1_1 a1_2 a1_3 a1_4 l1_5 a1_6 = some r) :
 Calls Try.prog 48 #[.agg #[.int .i64 a0_0, .int .i64 a0_1, .int .i64 a0_2, .int .i64 a0_3, .int .i64 a0_4, .slice A0_5 l0_5.length c0_5, .string a0_6], .agg #[.int .i64 a1_0, .int .i64 a1_1, .int .i64 a1_2, .int .i64 a1_3, .int .i64 a1_4, .slice A1_5 l1_5.length c1_5, .string a1_6]] w fun e w' => e = .returned (.bool r) ∧ Below w.heap.size w w' := by
 have hu69 := Try.underlying69
 have hu47 := Try.underlying47
 have HR0_5 := Aside0.mk hr0_5
 have HC0_5 := Aside0.mk hc0_5
 clear hr0_5 hc0_5
 have HR1_5 := Aside0.mk hr1_5
 have HC1_5 := Aside0.mk hc1_5
 clear hr1_5 hc1_5
 have HB := Aside0.mk (Below.refl w.heap.size w)
 have H := h
 unfold laws_eqEvent.f at H
 clear h
 by_cases c3 : a0_0 = a1_0
 rotate_left
 ·rw [if_neg c3] at H
  have c3b0 : (a0_0 == a1_0) = false := beq_eq_false_iff_ne.mpr c3
  have c3b1 : (a0_0 != a1_0) = true := bne_iff_ne.mpr c3
  obtain rfl := Option.some.inj H
  go_enter Try.func48, Try.ntmps48
  go_wp2_with (first | ((with_reducible refine gate_dst (N := 2) rfl ?_); refine bx_ 2 69 #[.int .i64 a0_0, .int .i64 a0_1, .int .i64 a0_2, .int .i64 a0_3, .int .i64 a0_4, .slice A0_5 l0_5.length c0_5, .string a0_6] ?_; intro gb412 hg w41 hbox hb; have BK412 := Aside0.mk (hbox); have GW412 := Aside0.mk ((hz_ : w.heap.size ≤ gb412)); have GE412 := Aside0.mk ((hz_ : w.heap.size ≤ gb412)); replace HB := Aside0.mk (below_step bl_ hb); clear hb hbox hg) | ((with_reducible refine gate_dst (N := 3) rfl ?_); refine bx_ 3 69 #[.int .i64 a1_0, .int .i64 a1_1, .int .i64 a1_2, .int .i64 a1_3, .int .i64 a1_4, .slice A1_5 l1_5.length c1_5, .string a1_6] ?_; intro gb413 hg w42 hbox hb; have BK413 := Aside0.mk (hbox); have GW413 := Aside0.mk ((hz_ : w.heap.size ≤ gb413)); have GE413 := Aside0.mk ((hz_ : w.heap.size ≤ gb413)); replace HB := Aside0.mk (below_step bl_ hb); have NB412_413 := Aside0.mk ((by rw [hg]; exact Nat.ne_of_lt (blk_lt (g := gb412) (o := .cells #[.int .i64 a0_0, .int .i64 a0_1, .int .i64 a0_2, .int .i64 a0_3, .int .i64 a0_4, .slice A0_5 l0_5.length c0_5, .string a0_6] 69 (0, 0)) (bk_ BK412.out)) : gb412 ≠ gb413)); have NB413_412 := Aside0.mk ((by rw [hg]; exact Nat.ne_of_gt (blk_lt (g := gb412) (o := .cells #[.int .i64 a0_0, .int .i64 a0_1, .int .i64 a0_2, .int .i64 a0_3, .int .i64 a0_4, .slice A0_5 l0_5.length c0_5, .string a0_6] 69 (0, 0)) (bk_ BK412.out)) : gb413 ≠ gb412)); replace BK412 := Aside0.mk (blk_below (bn0_ BK412.out) hb); clear hb hbox hg; have hnb43 := NB412_413.out; have hnc43 := NB413_412.out; obtain ⟨hcz44_0, hcz44_1, hcz44_2, hcz44_3, hcz44_4, hcz44_5, hcz44_6, hfz44_0, hfz44_1, hfz44_2, hfz44_3, hfz44_4, hfz44_5, hfz44_6⟩ := cf7_ BK412.out; obtain ⟨hcz45_0, hcz45_1, hcz45_2, hcz45_3, hcz45_4, hcz45_5, hcz45_6, hfz45_0, hfz45_1, hfz45_2, hfz45_3, hfz45_4, hfz45_5, hfz45_6⟩ := cf7_ BK413.out))
  go_ret
  exact ⟨er_, bl_⟩
 rw [if_pos c3] at H
 have c3b0 : (a0_0 == a1_0) = true := beq_iff_eq.mpr c3
 have c3b1 : (a0_0 != a1_0) = false := bne_eq_false_iff_eq.mpr c3
 clear c3
 by_cases c4 : a0_1 = a1_1
 rotate_left
 ·rw [if_neg c4] at H
  have c4b0 : (a0_1 == a1_1) = false := beq_eq_false_iff_ne.mpr c4
  have c4b1 : (a0_1 != a1_1) = true := bne_iff_ne.mpr c4
  obtain rfl := Option.some.inj H
  go_enter Try.func48, Try.ntmps48
  go_wp2_with (first | ((with_reducible refine gate_dst (N := 2) rfl ?_); refine bx_ 2 69 #[.int .i64 a0_0, .int .i64 a0_1, .int .i64 a0_2, .int .i64 a0_3, .int .i64 a0_4, .slice A0_5 l0_5.length c0_5, .string a0_6] ?_; intro gb412 hg w36 hbox hb; have BK412 := Aside0.mk (hbox); have GW412 := Aside0.mk ((hz_ : w.heap.size ≤ gb412)); have GE412 := Aside0.mk ((hz_ : w.heap.size ≤ gb412)); replace HB := Aside0.mk (below_step bl_ hb); clear hb hbox hg) | ((with_reducible refine gate_dst (N := 3) rfl ?_); refine bx_ 3 69 #[.int .i64 a1_0, .int .i64 a1_1, .int .i64 a1_2, .int .i64 a1_3, .int .i64 a1_4, .slice A1_5 l1_5.length c1_5, .string a1_6] ?_; intro gb413 hg w37 hbox hb; have BK413 := Aside0.mk (hbox); have GW413 := Aside0.mk ((hz_ : w.heap.size ≤ gb413)); have GE413 := Aside0.mk ((hz_ : w.heap.size ≤ gb413)); replace HB := Aside0.mk (below_step bl_ hb); have NB412_413 := Aside0.mk ((by rw [hg]; exact Nat.ne_of_lt (blk_lt (g := gb412) (o := .cells #[.int .i64 a0_0, .int .i64 a0_1, .int .i64 a0_2, .int .i64 a0_3, .int .i64 a0_4, .slice A0_5 l0_5.length c0_5, .string a0_6] 69 (0, 0)) (bk_ BK412.out)) : gb412 ≠ gb413)); have NB413_412 := Aside0.mk ((by rw [hg]; exact Nat.ne_of_gt (blk_lt (g := gb412) (o := .cells #[.int .i64 a0_0, .int .i64 a0_1, .int .i64 a0_2, .int .i64 a0_3, .int .i64 a0_4, .slice A0_5 l0_5.length c0_5, .string a0_6] 69 (0, 0)) (bk_ BK412.out)) : gb413 ≠ gb412)); replace BK412 := Aside0.mk (blk_below (bn0_ BK412.out) hb); clear hb hbox hg; have hnb38 := NB412_413.out; have hnc38 := NB413_412.out; obtain ⟨hcz39_0, hcz39_1, hcz39_2, hcz39_3, hcz39_4, hcz39_5, hcz39_6, hfz39_0, hfz39_1, hfz39_2, hfz39_3, hfz39_4, hfz39_5, hfz39_6⟩ := cf7_ BK412.out; obtain ⟨hcz40_0, hcz40_1, hcz40_2, hcz40_3, hcz40_4, hcz40_5, hcz40_6, hfz40_0, hfz40_1, hfz40_2, hfz40_3, hfz40_4, hfz40_5, hfz40_6⟩ := cf7_ BK413.out))
  go_ret
  exact ⟨er_, bl_⟩
 rw [if_pos c4] at H
 have c4b0 : (a0_1 == a1_1) = true := beq_iff_eq.mpr c4
 have c4b1 : (a0_1 != a1_1) = false := bne_eq_false_iff_eq.mpr c4
 clear c4
 by_cases c5 : a0_2 = a1_2
 rotate_left
 ·rw [if_neg c5] at H
  have c5b0 : (a0_2 == a1_2) = false := beq_eq_false_iff_ne.mpr c5
  have c5b1 : (a0_2 != a1_2) = true := bne_iff_ne.mpr c5
  obtain rfl := Option.some.inj H
  go_enter Try.func48, Try.ntmps48
  go_wp2_with (first | ((with_reducible refine gate_dst (N := 2) rfl ?_); refine bx_ 2 69 #[.int .i64 a0_0, .int .i64 a0_1, .int .i64 a0_2, .int .i64 a0_3, .int .i64 a0_4, .slice A0_5 l0_5.length c0_5, .string a0_6] ?_; intro gb412 hg w31 hbox hb; have BK412 := Aside0.mk (hbox); have GW412 := Aside0.mk ((hz_ : w.heap.size ≤ gb412)); have GE412 := Aside0.mk ((hz_ : w.heap.size ≤ gb412)); replace HB := Aside0.mk (below_step bl_ hb); clear hb hbox hg) | ((with_reducible refine gate_dst (N := 3) rfl ?_); refine bx_ 3 69 #[.int .i64 a1_0, .int .i64 a1_1, .int .i64 a1_2, .int .i64 a1_3, .int .i64 a1_4, .slice A1_5 l1_5.length c1_5, .string a1_6] ?_; intro gb413 hg w32 hbox hb; have BK413 := Aside0.mk (hbox); have GW413 := Aside0.mk ((hz_ : w.heap.size ≤ gb413)); have GE413 := Aside0.mk ((hz_ : w.heap.size ≤ gb413)); replace HB := Aside0.mk (below_step bl_ hb); have NB412_413 := Aside0.mk ((by rw [hg]; exact Nat.ne_of_lt (blk_lt (g := gb412) (o := .cells #[.int .i64 a0_0, .int .i64 a0_1, .int .i64 a0_2, .int .i64 a0_3, .int .i64 a0_4, .slice A0_5 l0_5.length c0_5, .string a0_6] 69 (0, 0)) (bk_ BK412.out)) : gb412 ≠ gb413)); have NB413_412 := Aside0.mk ((by rw [hg]; exact Nat.ne_of_gt (blk_lt (g := gb412) (o := .cells #[.int .i64 a0_0, .int .i64 a0_1, .int .i64 a0_2, .int .i64 a0_3, .int .i64 a0_4, .slice A0_5 l0_5.length c0_5, .string a0_6] 69 (0, 0)) (bk_ BK412.out)) : gb413 ≠ gb412)); replace BK412 := Aside0.mk (blk_below (bn0_ BK412.out) hb); clear hb hbox hg; have hnb33 := NB412_413.out; have hnc33 := NB413_412.out; obtain ⟨hcz34_0, hcz34_1, hcz34_2, hcz34_3, hcz34_4, hcz34_5, hcz34_6, hfz34_0, hfz34_1, hfz34_2, hfz34_3, hfz34_4, hfz34_5, hfz34_6⟩ := cf7_ BK412.out; obtain ⟨hcz35_0, hcz35_1, hcz35_2, hcz35_3, hcz35_4, hcz35_5, hcz35_6, hfz35_0, hfz35_1, hfz35_2, hfz35_3, hfz35_4, hfz35_5, hfz35_6⟩ := cf7_ BK413.out))
  go_ret
  exact ⟨er_, bl_⟩
 rw [if_pos c5] at H
 have c5b0 : (a0_2 == a1_2) = true := beq_iff_eq.mpr c5
 have c5b1 : (a0_2 != a1_2) = false := bne_eq_false_iff_eq.mpr c5
 clear c5
 replace H := bs_ H
 obtain ⟨t414, A6, H⟩ := H
 try dsimp only at H
 by_cases c7 : t414 = true
 rotate_left
 ·replace c7 := Bool.eq_false_iff.mpr c7
  subst c7
  rw [nf_] at H
  obtain rfl := Option.some.inj H
  go_enter Try.func48, Try.ntmps48
  go_wp2_with (first | ((with_reducible refine gate_dst (N := 2) rfl ?_); refine bx_ 2 69 #[.int .i64 a0_0, .int .i64 a0_1, .int .i64 a0_2, .int .i64 a0_3, .int .i64 a0_4, .slice A0_5 l0_5.length c0_5, .string a0_6] ?_; intro gb412 hg w25 hbox hb; have BK412 := Aside0.mk (hbox); have GW412 := Aside0.mk ((hz_ : w.heap.size ≤ gb412)); have GE412 := Aside0.mk ((hz_ : w.heap.size ≤ gb412)); replace HB := Aside0.mk (below_step bl_ hb); clear hb hbox hg) | ((with_reducible refine gate_dst (N := 3) rfl ?_); refine bx_ 3 69 #[.int .i64 a1_0, .int .i64 a1_1, .int .i64 a1_2, .int .i64 a1_3, .int .i64 a1_4, .slice A1_5 l1_5.length c1_5, .string a1_6] ?_; intro gb413 hg w26 hbox hb; have BK413 := Aside0.mk (hbox); have GW413 := Aside0.mk ((hz_ : w.heap.size ≤ gb413)); have GE413 := Aside0.mk ((hz_ : w.heap.size ≤ gb413)); replace HB := Aside0.mk (below_step bl_ hb); have NB412_413 := Aside0.mk ((by rw [hg]; exact Nat.ne_of_lt (blk_lt (g := gb412) (o := .cells #[.int .i64 a0_0, .int .i64 a0_1, .int .i64 a0_2, .int .i64 a0_3, .int .i64 a0_4, .slice A0_5 l0_5.length c0_5, .string a0_6] 69 (0, 0)) (bk_ BK412.out)) : gb412 ≠ gb413)); have NB413_412 := Aside0.mk ((by rw [hg]; exact Nat.ne_of_gt (blk_lt (g := gb412) (o := .cells #[.int .i64 a0_0, .int .i64 a0_1, .int .i64 a0_2, .int .i64 a0_3, .int .i64 a0_4, .slice A0_5 l0_5.length c0_5, .string a0_6] 69 (0, 0)) (bk_ BK412.out)) : gb413 ≠ gb412)); replace BK412 := Aside0.mk (blk_below (bn0_ BK412.out) hb); clear hb hbox hg; have hnb27 := NB412_413.out; have hnc27 := NB413_412.out; obtain ⟨hcz28_0, hcz28_1, hcz28_2, hcz28_3, hcz28_4, hcz28_5, hcz28_6, hfz28_0, hfz28_1, hfz28_2, hfz28_3, hfz28_4, hfz28_5, hfz28_6⟩ := cf7_ BK412.out; obtain ⟨hcz29_0, hcz29_1, hcz29_2, hcz29_3, hcz29_4, hcz29_5, hcz29_6, hfz29_0, hfz29_1, hfz29_2, hfz29_3, hfz29_4, hfz29_5, hfz29_6⟩ := cf7_ BK413.out) | ((with_reducible refine gate_callee (f := 94) rfl ?_); refine gs_ (some 24) Try.func94 #[.agg #[.int .i64 a0_3, .int .i64 a0_4, .slice A0_5 l0_5.length c0_5], .agg #[.int .i64 a1_3, .int .i64 a1_4, .slice A1_5 l1_5.length c1_5]] ?_; (with_reducible refine (laws_eqCall.calls k a0_3 a0_4 _ _ l0_5 a1_3 a1_4 _ _ l1_5 false _ ?side1 ?side2 ?side3 ?side4 A6.out).mono ?_); (case side1 => exact cb_ HR0_5.out HB.out); (case side2 => exact HC0_5.out); (case side3 => exact cb_ HR1_5.out HB.out); (case side4 => exact HC1_5.out); rintro e w30 ⟨rfl, hb⟩; refine ⟨_, rfl, ?_⟩; replace BK412 := Aside0.mk (blk_below (bn0_ BK412.out) hb); replace BK413 := Aside0.mk (blk_below (bn0_ BK413.out) hb); replace HB := Aside0.mk (below_step bl_ hb); (try clear hb)))
  go_ret
  exact ⟨er_, bl_⟩
 subst c7
 rw [if_pos rfl] at H
 by_cases c8 : a0_6.toList = a1_6.toList
 rotate_left
 ·rw [if_neg c8] at H
  have c8b0 : (a0_6.toList == a1_6.toList) = false := beq_eq_false_iff_ne.mpr c8
  have c8b1 : (a0_6.toList != a1_6.toList) = true := bne_iff_ne.mpr c8
  obtain rfl := Option.some.inj H
  go_enter Try.func48, Try.ntmps48
  go_wp2_with (first | ((with_reducible refine gate_dst (N := 2) rfl ?_); refine bx_ 2 69 #[.int .i64 a0_0, .int .i64 a0_1, .int .i64 a0_2, .int .i64 a0_3, .int .i64 a0_4, .slice A0_5 l0_5.length c0_5, .string a0_6] ?_; intro gb412 hg w17 hbox hb; have BK412 := Aside0.mk (hbox); have GW412 := Aside0.mk ((hz_ : w.heap.size ≤ gb412)); have GE412 := Aside0.mk ((hz_ : w.heap.size ≤ gb412)); replace HB := Aside0.mk (below_step bl_ hb); clear hb hbox hg) | ((with_reducible refine gate_dst (N := 3) rfl ?_); refine bx_ 3 69 #[.int .i64 a1_0, .int .i64 a1_1, .int .i64 a1_2, .int .i64 a1_3, .int .i64 a1_4, .slice A1_5 l1_5.length c1_5, .string a1_6] ?_; intro gb413 hg w18 hbox hb; have BK413 := Aside0.mk (hbox); have GW413 := Aside0.mk ((hz_ : w.heap.size ≤ gb413)); have GE413 := Aside0.mk ((hz_ : w.heap.size ≤ gb413)); replace HB := Aside0.mk (below_step bl_ hb); have NB412_413 := Aside0.mk ((by rw [hg]; exact Nat.ne_of_lt (blk_lt (g := gb412) (o := .cells #[.int .i64 a0_0, .int .i64 a0_1, .int .i64 a0_2, .int .i64 a0_3, .int .i64 a0_4, .slice A0_5 l0_5.length c0_5, .string a0_6] 69 (0, 0)) (bk_ BK412.out)) : gb412 ≠ gb413)); have NB413_412 := Aside0.mk ((by rw [hg]; exact Nat.ne_of_gt (blk_lt (g := gb412) (o := .cells #[.int .i64 a0_0, .int .i64 a0_1, .int .i64 a0_2, .int .i64 a0_3, .int .i64 a0_4, .slice A0_5 l0_5.length c0_5, .string a0_6] 69 (0, 0)) (bk_ BK412.out)) : gb413 ≠ gb412)); replace BK412 := Aside0.mk (blk_below (bn0_ BK412.out) hb); clear hb hbox hg; have hnb19 := NB412_413.out; have hnc19 := NB413_412.out; obtain ⟨hcz20_0, hcz20_1, hcz20_2, hcz20_3, hcz20_4, hcz20_5, hcz20_6, hfz20_0, hfz20_1, hfz20_2, hfz20_3, hfz20_4, hfz20_5, hfz20_6⟩ := cf7_ BK412.out; obtain ⟨hcz21_0, hcz21_1, hcz21_2, hcz21_3, hcz21_4, hcz21_5, hcz21_6, hfz21_0, hfz21_1, hfz21_2, hfz21_3, hfz21_4, hfz21_5, hfz21_6⟩ := cf7_ BK413.out) | ((with_reducible refine gate_callee (f := 94) rfl ?_); refine gs_ (some 24) Try.func94 #[.agg #[.int .i64 a0_3, .int .i64 a0_4, .slice A0_5 l0_5.length c0_5], .agg #[.int .i64 a1_3, .int .i64 a1_4, .slice A1_5 l1_5.length c1_5]] ?_; (with_reducible refine (laws_eqCall.calls k a0_3 a0_4 _ _ l0_5 a1_3 a1_4 _ _ l1_5 true _ ?side1 ?side2 ?side3 ?side4 A6.out).mono ?_); (case side1 => exact cb_ HR0_5.out HB.out); (case side2 => exact HC0_5.out); (case side3 => exact cb_ HR1_5.out HB.out); (case side4 => exact HC1_5.out); rintro e w22 ⟨rfl, hb⟩; refine ⟨_, rfl, ?_⟩; replace BK412 := Aside0.mk (blk_below (bn0_ BK412.out) hb); replace BK413 := Aside0.mk (blk_below (bn0_ BK413.out) hb); replace HB := Aside0.mk (below_step bl_ hb); (try clear hb); obtain ⟨hcz23_0, hcz23_1, hcz23_2, hcz23_3, hcz23_4, hcz23_5, hcz23_6, hfz23_0, hfz23_1, hfz23_2, hfz23_3, hfz23_4, hfz23_5, hfz23_6⟩ := cf7_ BK412.out; obtain ⟨hcz24_0, hcz24_1, hcz24_2, hcz24_3, hcz24_4, hcz24_5, hcz24_6, hfz24_0, hfz24_1, hfz24_2, hfz24_3, hfz24_4, hfz24_5, hfz24_6⟩ := cf7_ BK413.out))
  go_ret
  exact ⟨er_, bl_⟩
 rw [if_pos c8] at H
 have c8b0 : (a0_6.toList == a1_6.toList) = true := beq_iff_eq.mpr c8
 have c8b1 : (a0_6.toList != a1_6.toList) = false := bne_eq_false_iff_eq.mpr c8
 clear c8
 obtain rfl := Option.some.inj H
 go_enter Try.func48, Try.ntmps48
 go_wp2_with (first | ((with_reducible refine gate_dst (N := 2) rfl ?_); refine bx_ 2 69 #[.int .i64 a0_0, .int .i64 a0_1, .int .i64 a0_2, .int .i64 a0_3, .int .i64 a0_4, .slice A0_5 l0_5.length c0_5, .string a0_6] ?_; intro gb412 hg w9 hbox hb; have BK412 := Aside0.mk (hbox); have GW412 := Aside0.mk ((hz_ : w.heap.size ≤ gb412)); have GE412 := Aside0.mk ((hz_ : w.heap.size ≤ gb412)); replace HB := Aside0.mk (below_step bl_ hb); clear hb hbox hg) | ((with_reducible refine gate_dst (N := 3) rfl ?_); refine bx_ 3 69 #[.int .i64 a1_0, .int .i64 a1_1, .int .i64 a1_2, .int .i64 a1_3, .int .i64 a1_4, .slice A1_5 l1_5.length c1_5, .string a1_6] ?_; intro gb413 hg w10 hbox hb; have BK413 := Aside0.mk (hbox); have GW413 := Aside0.mk ((hz_ : w.heap.size ≤ gb413)); have GE413 := Aside0.mk ((hz_ : w.heap.size ≤ gb413)); replace HB := Aside0.mk (below_step bl_ hb); have NB412_413 := Aside0.mk ((by rw [hg]; exact Nat.ne_of_lt (blk_lt (g := gb412) (o := .cells #[.int .i64 a0_0, .int .i64 a0_1, .int .i64 a0_2, .int .i64 a0_3, .int .i64 a0_4, .slice A0_5 l0_5.length c0_5, .string a0_6] 69 (0, 0)) (bk_ BK412.out)) : gb412 ≠ gb413)); have NB413_412 := Aside0.mk ((by rw [hg]; exact Nat.ne_of_gt (blk_lt (g := gb412) (o := .cells #[.int .i64 a0_0, .int .i64 a0_1, .int .i64 a0_2, .int .i64 a0_3, .int .i64 a0_4, .slice A0_5 l0_5.length c0_5, .string a0_6] 69 (0, 0)) (bk_ BK412.out)) : gb413 ≠ gb412)); replace BK412 := Aside0.mk (blk_below (bn0_ BK412.out) hb); clear hb hbox hg; have hnb11 := NB412_413.out; have hnc11 := NB413_412.out; obtain ⟨hcz12_0, hcz12_1, hcz12_2, hcz12_3, hcz12_4, hcz12_5, hcz12_6, hfz12_0, hfz12_1, hfz12_2, hfz12_3, hfz12_4, hfz12_5, hfz12_6⟩ := cf7_ BK412.out; obtain ⟨hcz13_0, hcz13_1, hcz13_2, hcz13_3, hcz13_4, hcz13_5, hcz13_6, hfz13_0, hfz13_1, hfz13_2, hfz13_3, hfz13_4, hfz13_5, hfz13_6⟩ := cf7_ BK413.out) | ((with_reducible refine gate_callee (f := 94) rfl ?_); refine gs_ (some 24) Try.func94 #[.agg #[.int .i64 a0_3, .int .i64 a0_4, .slice A0_5 l0_5.length c0_5], .agg #[.int .i64 a1_3, .int .i64 a1_4, .slice A1_5 l1_5.length c1_5]] ?_; (with_reducible refine (laws_eqCall.calls k a0_3 a0_4 _ _ l0_5 a1_3 a1_4 _ _ l1_5 true _ ?side1 ?side2 ?side3 ?side4 A6.out).mono ?_); (case side1 => exact cb_ HR0_5.out HB.out); (case side2 => exact HC0_5.out); (case side3 => exact cb_ HR1_5.out HB.out); (case side4 => exact HC1_5.out); rintro e w14 ⟨rfl, hb⟩; refine ⟨_, rfl, ?_⟩; replace BK412 := Aside0.mk (blk_below (bn0_ BK412.out) hb); replace BK413 := Aside0.mk (blk_below (bn0_ BK413.out) hb); replace HB := Aside0.mk (below_step bl_ hb); (try clear hb); obtain ⟨hcz15_0, hcz15_1, hcz15_2, hcz15_3, hcz15_4, hcz15_5, hcz15_6, hfz15_0, hfz15_1, hfz15_2, hfz15_3, hfz15_4, hfz15_5, hfz15_6⟩ := cf7_ BK412.out; obtain ⟨hcz16_0, hcz16_1, hcz16_2, hcz16_3, hcz16_4, hcz16_5, hcz16_6, hfz16_0, hfz16_1, hfz16_2, hfz16_3, hfz16_4, hfz16_5, hfz16_6⟩ := cf7_ BK413.out))
 go_ret
 exact ⟨er_, bl_⟩


def laws_eqEventS.l0 : Nat → List (S69) → List (S69) → Int → Option (Bool)
 | 0, _, _, _ => none
 | k + 1, x0, x1, x5 => if x5 < (x0.length : Int) then (if 0 ≤ x5 then (if x5 < (x1.length : Int) then ((laws_eqEvent.f k ((rd_T69 x0 x5).f0) ((rd_T69 x0 x5).f1) ((rd_T69 x0 x5).f2) ((rd_T69 x0 x5).f3.f0) ((rd_T69 x0 x5).f3.f1) ((rd_T69 x0 x5).f3.f2) ((rd_T69 x0 x5).f4) ((rd_T69 x1 x5).f0) ((rd_T69 x1 x5).f1) ((rd_T69 x1 x5).f2) ((rd_T69 x1 x5).f3.f0) ((rd_T69 x1 x5).f3.f1) ((rd_T69 x1 x5).f3.f2) ((rd_T69 x1 x5).f4)).bind fun t417 => (if t417 = true then (laws_eqEventS.l0 k x0 x1 (wrap64 (x5 + 1))) else (some false))) else (none)) else (none)) else (some true)
def laws_eqEventS.f (k : Nat) (l0 : List (S69)) (l1 : List (S69)) : Option (Bool) := if (l0.length : Int) = (l1.length : Int) then (laws_eqEventS.l0 k l0 l1 0) else (some false)
theorem laws_eqEventS.mono_l : ∀ k, (∀ y0 y1 y2, LeO (laws_eqEventS.l0 k y0 y1 y2) (laws_eqEventS.l0 (k + 1) y0 y1 y2))
 | 0 => fun _ _ _ r h => by simp [laws_eqEventS.l0] at h
 | k + 1 => by
  have ih0 := laws_eqEventS.mono_l k
  ·intro y0 y1 y2
   unfold laws_eqEventS.l0
   have m0 := @laws_eqEvent.mono
   exact mo_
theorem laws_eqEventS.mono : ∀ a0 a1 k, LeO (laws_eqEventS.f k a0 a1) (laws_eqEventS.f (k + 1) a0 a1) := by
 intro a0 a1 k
 have ih0 := laws_eqEventS.mono_l k
 unfold laws_eqEventS.f
 have m0 := @laws_eqEvent.mono
 exact mo_
def laws_eqEventS.T6 : Bool × List (List Nat × List Nat) := (true, [([], []), ([], []), ([0, 1], [0, 1]), ([2], [2]), ([], []), ([], []), ([4, 5], [4, 5]), ([6], [6]), ([3, 7], [3, 7]), ([8], [8])])
def laws_eqEventS.B6 : List Nat := [0, 0, 3, 7, 0, 0, 48, 112, 255, 511]
theorem laws_eqEventS.tab6 : rtab .any (opsOf Try.f9 6) = laws_eqEventS.T6 := by kernel_rfl
theorem laws_eqEventS.bits6 : waitsOk laws_eqEventS.T6.2 laws_eqEventS.B6 = true := by kernel_rfl
theorem laws_eqEventS.calls (k : Nat) (A0 : Option Addr) (c0 : Nat) (l0 : List (S69)) (A1 : Option Addr) (c1 : Nat) (l1 : List (S69)) (r : Bool) (w : World) (hr0 : Kd.C k69 w A0 l0.length l0) (hc0 : l0.length ≤ c0) (hr1 : Kd.C k69 w A1 l1.length l1) (hc1 : l1.length ≤ c1) (h : laws_eqEventS.f k l0 l1 = some r) :
 Calls Try.prog 9 #[.slice A0 l0.length c0, .slice A1 l1.length c1] w fun e w' => e = .returned (.bool r) ∧ Below w.heap.size w w' := by
 have hu69 := Try.underlying69
 have HR0 := Aside0.mk hr0
 have HC0 := Aside0.mk hc0
 clear hr0 hc0
 have HR1 := Aside0.mk hr1
 have HC1 := Aside0.mk hc1
 clear hr1 hc1
 have HB := Aside0.mk (Below.refl w.heap.size w)
 have H := h
 unfold laws_eqEventS.f at H
 clear h
 by_cases c3 : (l0.length : Int) = (l1.length : Int)
 rotate_left
 ·rw [if_neg c3] at H
  have c3b0 : ((l0.length : Int) == (l1.length : Int)) = false := beq_eq_false_iff_ne.mpr c3
  have c3b1 : ((l0.length : Int) != (l1.length : Int)) = true := bne_iff_ne.mpr c3
  have c3b2 : (l0.length == l1.length) = false := by first | simpa using c3 | (simp at c3 ⊢; omega)
  obtain rfl := Option.some.inj H
  go_enter Try.func9, Try.ntmps9
  go_wp2
  go_ret
  exact ⟨er_, bl_⟩
 rw [if_pos c3] at H
 have c3b0 : ((l0.length : Int) == (l1.length : Int)) = true := beq_iff_eq.mpr c3
 have c3b1 : ((l0.length : Int) != (l1.length : Int)) = false := bne_eq_false_iff_eq.mpr c3
 have c3b2 : (l0.length == l1.length) = true := by first | simpa using c3 | (simp at c3 ⊢; omega)
 clear c3
 have H' := Aside0.mk H
 clear H
 go_enter Try.func9, Try.ntmps9
 go_wp2
 go_loopg [5] k (fun kq v5 w' => ∃ (x5_1 : Int), v5 = .int .i64 x5_1 ∧ Aside0 (laws_eqEventS.l0 kq l0 l1 x5_1 = some r) ∧ Aside0 (kq ≤ k) ∧ Aside0 (Below w.heap.size w w'))
 case atStart => exact ⟨(0), (sr_), H', ⟨Nat.le_refl _⟩, ⟨bl_⟩⟩
 clear H'
 try clear c1
 try clear c3
 try clear c3b0
 try clear c3b1
 try clear c3b2
 obtain ⟨x5_1, rfl, HA, HK1, HB⟩ := hrel
 cases gk with
 | zero => exact absurd HA.out (by simp [laws_eqEventS.l0])
 | succ k1 => ?_
 have H := HA.out
 clear HA
 simp only [laws_eqEventS.l0] at H
 by_cases c4 : x5_1 < (l0.length : Int)
 rotate_left
 ·rw [if_neg c4] at H
  have c4b0 := decide_eq_false c4
  clear c4
  obtain rfl := Option.some.inj H
  go_wp2
  go_ret
  exact ⟨er_, bl_⟩
 rw [if_pos c4] at H
 have c4b0 := decide_eq_true c4
 clear c4
 by_cases c5 : 0 ≤ x5_1
 rotate_left
 ·exact nn_ c5 H
 rw [if_pos c5] at H
 have c5b0 := decide_eq_true c5
 clear c5
 by_cases c6 : x5_1 < (l1.length : Int)
 rotate_left
 ·exact nn_ c6 H
 rw [if_pos c6] at H
 have c6b0 := decide_eq_true c6
 clear c6
 replace H := bs_ H
 obtain ⟨t417, A7, H⟩ := H
 try dsimp only at H
 by_cases c8 : t417 = true
 rotate_left
 ·replace c8 := Bool.eq_false_iff.mpr c8
  subst c8
  rw [nf_] at H
  obtain rfl := Option.some.inj H
  try go_wp2
  have n0_ := Aside0.mk (below_drew1 HB.out)
  clear HB
  have HB := n0_
  clear n0_
  have p415 : 0 ≤ (x5_1 : Int) := of_decide_eq_true as_
  have q415 : x5_1 < (l0.length : Int) := of_decide_eq_true as_
  obtain ⟨ad415, A415_5, c415_5, e415, hx415_0, hx415_1, hx415_2, hx415_3, hx415_4, hx415_5, hx415_6, hl415_5, hi415_5⟩ := at_T69 HR0.out x5_1 p415 q415
  have hw415_6 := hx415_6
  have hw415_5 := hx415_5
  have hw415_4 := hx415_4
  have hw415_3 := hx415_3
  have hw415_2 := hx415_2
  have hw415_1 := hx415_1
  have hw415_0 := hx415_0
  cases e415
  replace hx415_0 := (HB.out.cell (World.block_lt_of_cell? w _ hx415_0)).trans hx415_0
  replace hx415_1 := (HB.out.cell (World.block_lt_of_cell? w _ hx415_1)).trans hx415_1
  replace hx415_2 := (HB.out.cell (World.block_lt_of_cell? w _ hx415_2)).trans hx415_2
  replace hx415_3 := (HB.out.cell (World.block_lt_of_cell? w _ hx415_3)).trans hx415_3
  replace hx415_4 := (HB.out.cell (World.block_lt_of_cell? w _ hx415_4)).trans hx415_4
  replace hx415_5 := (HB.out.cell (World.block_lt_of_cell? w _ hx415_5)).trans hx415_5
  replace hx415_6 := (HB.out.cell (World.block_lt_of_cell? w _ hx415_6)).trans hx415_6
  have HR415_5 := Aside0.mk hi415_5
  have HC415_5 := Aside0.mk hl415_5
  clear hi415_5 hl415_5
  replace p415 := eq_true p415
  replace q415 := eq_true q415
  have p416 : 0 ≤ (x5_1 : Int) := of_decide_eq_true as_
  have q416 : x5_1 < (l1.length : Int) := of_decide_eq_true as_
  obtain ⟨ad416, A416_5, c416_5, e416, hx416_0, hx416_1, hx416_2, hx416_3, hx416_4, hx416_5, hx416_6, hl416_5, hi416_5⟩ := at_T69 HR1.out x5_1 p416 q416
  have hw416_6 := hx416_6
  have hw416_5 := hx416_5
  have hw416_4 := hx416_4
  have hw416_3 := hx416_3
  have hw416_2 := hx416_2
  have hw416_1 := hx416_1
  have hw416_0 := hx416_0
  cases e416
  replace hx416_0 := (HB.out.cell (World.block_lt_of_cell? w _ hx416_0)).trans hx416_0
  replace hx416_1 := (HB.out.cell (World.block_lt_of_cell? w _ hx416_1)).trans hx416_1
  replace hx416_2 := (HB.out.cell (World.block_lt_of_cell? w _ hx416_2)).trans hx416_2
  replace hx416_3 := (HB.out.cell (World.block_lt_of_cell? w _ hx416_3)).trans hx416_3
  replace hx416_4 := (HB.out.cell (World.block_lt_of_cell? w _ hx416_4)).trans hx416_4
  replace hx416_5 := (HB.out.cell (World.block_lt_of_cell? w _ hx416_5)).trans hx416_5
  replace hx416_6 := (HB.out.cell (World.block_lt_of_cell? w _ hx416_6)).trans hx416_6
  have HR416_5 := Aside0.mk hi416_5
  have HC416_5 := Aside0.mk hl416_5
  clear hi416_5 hl416_5
  replace p416 := eq_true p416
  replace q416 := eq_true q416
  refine start_ (n := 10) (S := fun w' => w'.cell? (ad415.add ((x5_1).toNat * 7)) = some (.int .i64 ((rd_T69 l0 x5_1).f0)) ∧ w'.cell? ⟨(ad415.add ((x5_1).toNat * 7)).block, (ad415.add ((x5_1).toNat * 7)).off + 1, none⟩ = some (.int .i64 ((rd_T69 l0 x5_1).f1)) ∧ w'.cell? ⟨(ad415.add ((x5_1).toNat * 7)).block, (ad415.add ((x5_1).toNat * 7)).off + 2, none⟩ = some (.int .i64 ((rd_T69 l0 x5_1).f2)) ∧ w'.cell? ⟨(ad415.add ((x5_1).toNat * 7)).block, (ad415.add ((x5_1).toNat * 7)).off + 3, none⟩ = some (.int .i64 ((rd_T69 l0 x5_1).f3.f0)) ∧ w'.cell? ⟨(ad415.add ((x5_1).toNat * 7)).block, (ad415.add ((x5_1).toNat * 7)).off + 4, none⟩ = some (.int .i64 ((rd_T69 l0 x5_1).f3.f1)) ∧ w'.cell? ⟨(ad415.add ((x5_1).toNat * 7)).block, (ad415.add ((x5_1).toNat * 7)).off + 5, none⟩ = some (.slice A415_5 ((rd_T69 l0 x5_1).f3.f2).length c415_5) ∧ w'.cell? ⟨(ad415.add ((x5_1).toNat * 7)).block, (ad415.add ((x5_1).toNat * 7)).off + 6, none⟩ = some (.string ((rd_T69 l0 x5_1).f4)) ∧ w'.cell? (ad416.add ((x5_1).toNat * 7)) = some (.int .i64 ((rd_T69 l1 x5_1).f0)) ∧ w'.cell? ⟨(ad416.add ((x5_1).toNat * 7)).block, (ad416.add ((x5_1).toNat * 7)).off + 1, none⟩ = some (.int .i64 ((rd_T69 l1 x5_1).f1)) ∧ w'.cell? ⟨(ad416.add ((x5_1).toNat * 7)).block, (ad416.add ((x5_1).toNat * 7)).off + 2, none⟩ = some (.int .i64 ((rd_T69 l1 x5_1).f2)) ∧ w'.cell? ⟨(ad416.add ((x5_1).toNat * 7)).block, (ad416.add ((x5_1).toNat * 7)).off + 3, none⟩ = some (.int .i64 ((rd_T69 l1 x5_1).f3.f0)) ∧ w'.cell? ⟨(ad416.add ((x5_1).toNat * 7)).block, (ad416.add ((x5_1).toNat * 7)).off + 4, none⟩ = some (.int .i64 ((rd_T69 l1 x5_1).f3.f1)) ∧ w'.cell? ⟨(ad416.add ((x5_1).toNat * 7)).block, (ad416.add ((x5_1).toNat * 7)).off + 5, none⟩ = some (.slice A416_5 ((rd_T69 l1 x5_1).f3.f2).length c416_5) ∧ w'.cell? ⟨(ad416.add ((x5_1).toNat * 7)).block, (ad416.add ((x5_1).toNat * 7)).off + 6, none⟩ = some (.string ((rd_T69 l1 x5_1).f4))) (ds := []) #[false, false, false, false, false, false, false, false, false, false] (by kernel_rfl) rfl rfl ⟨((HB.out.cell (World.block_lt_of_cell? w _ hw415_0)).trans hw415_0), ((HB.out.cell (World.block_lt_of_cell? w _ hw415_1)).trans hw415_1), ((HB.out.cell (World.block_lt_of_cell? w _ hw415_2)).trans hw415_2), ((HB.out.cell (World.block_lt_of_cell? w _ hw415_3)).trans hw415_3), ((HB.out.cell (World.block_lt_of_cell? w _ hw415_4)).trans hw415_4), ((HB.out.cell (World.block_lt_of_cell? w _ hw415_5)).trans hw415_5), ((HB.out.cell (World.block_lt_of_cell? w _ hw415_6)).trans hw415_6), ((HB.out.cell (World.block_lt_of_cell? w _ hw416_0)).trans hw416_0), ((HB.out.cell (World.block_lt_of_cell? w _ hw416_1)).trans hw416_1), ((HB.out.cell (World.block_lt_of_cell? w _ hw416_2)).trans hw416_2), ((HB.out.cell (World.block_lt_of_cell? w _ hw416_3)).trans hw416_3), ((HB.out.cell (World.block_lt_of_cell? w _ hw416_4)).trans hw416_4), ((HB.out.cell (World.block_lt_of_cell? w _ hw416_5)).trans hw416_5), ((HB.out.cell (World.block_lt_of_cell? w _ hw416_6)).trans hw416_6)⟩ (fun hHeld => ?_); refine with_tabW laws_eqEventS.tab6 laws_eqEventS.bits6 (fun HT_ HW_ => ?_)
  generalize wr.drew = w11 at HB HR415_5 HR416_5 hx415_0 hx415_1 hx415_2 hx415_3 hx415_4 hx415_5 hx415_6 hx416_0 hx416_1 hx416_2 hx416_3 hx416_4 hx416_5 hx416_6 hHeld ⊢
  refine pu_ 0 17 HT_ ?_
  refine pu_ 1 18 HT_ ?_
  refine pu_ 2 19 HT_ ?_
  refine pu_ 4 21 HT_ ?_
  refine pu_ 5 22 HT_ ?_
  refine pu_ 6 23 HT_ ?_
  refine ta_ 3 20 HT_ HW_ hHeld ?_ (r := by rintro w' ⟨s0, s1, s2, s3, s4, s5, s6, s7, s8, s9, s10, s11, s12, s13⟩; go_simp; with_reducible rfl)
  refine ta_ 7 24 HT_ HW_ hHeld ?_ (r := by rintro w' ⟨s0, s1, s2, s3, s4, s5, s6, s7, s8, s9, s10, s11, s12, s13⟩; go_simp; with_reducible rfl)
  refine on_ 8 25 HT_ (fun K hK => ?_)
  refine goes_ Try.func48 (by kernel_rfl) rfl #[.agg #[.int .i64 ((rd_T69 l0 x5_1).f0), .int .i64 ((rd_T69 l0 x5_1).f1), .int .i64 ((rd_T69 l0 x5_1).f2), .int .i64 ((rd_T69 l0 x5_1).f3.f0), .int .i64 ((rd_T69 l0 x5_1).f3.f1), .slice A415_5 ((rd_T69 l0 x5_1).f3.f2).length c415_5, .string ((rd_T69 l0 x5_1).f4)], .agg #[.int .i64 ((rd_T69 l1 x5_1).f0), .int .i64 ((rd_T69 l1 x5_1).f1), .int .i64 ((rd_T69 l1 x5_1).f2), .int .i64 ((rd_T69 l1 x5_1).f3.f0), .int .i64 ((rd_T69 l1 x5_1).f3.f1), .slice A416_5 ((rd_T69 l1 x5_1).f3.f2).length c416_5, .string ((rd_T69 l1 x5_1).f4)]] (by rfl) rfl rfl lm_ ?_
  with_reducible refine (laws_eqEvent.calls k1 ((rd_T69 l0 x5_1).f0) ((rd_T69 l0 x5_1).f1) ((rd_T69 l0 x5_1).f2) ((rd_T69 l0 x5_1).f3.f0) ((rd_T69 l0 x5_1).f3.f1) _ _ ((rd_T69 l0 x5_1).f3.f2) ((rd_T69 l0 x5_1).f4) ((rd_T69 l1 x5_1).f0) ((rd_T69 l1 x5_1).f1) ((rd_T69 l1 x5_1).f2) ((rd_T69 l1 x5_1).f3.f0) ((rd_T69 l1 x5_1).f3.f1) _ _ ((rd_T69 l1 x5_1).f3.f2) ((rd_T69 l1 x5_1).f4) false _ ?side1 ?side2 ?side3 ?side4 A7.out).mono ?_
  (case side1 => exact cb_ HR415_5.out HB.out)
  (case side2 => exact HC415_5.out)
  (case side3 => exact cb_ HR416_5.out HB.out)
  (case side4 => exact HC416_5.out)
  rintro e w12 ⟨rfl, hb⟩
  refine ⟨_, rfl, ?_⟩
  have n0_ := Aside0.mk (below_step bl_ hb)
  clear HB
  have HB := n0_
  clear n0_
  (try clear hb)
  (try clear hb2)
  (try clear hk)
  (try clear hi)
  refine hK.out _ _ ⟨((HB.out.cell (World.block_lt_of_cell? w _ hw415_0)).trans hw415_0), ((HB.out.cell (World.block_lt_of_cell? w _ hw415_1)).trans hw415_1), ((HB.out.cell (World.block_lt_of_cell? w _ hw415_2)).trans hw415_2), ((HB.out.cell (World.block_lt_of_cell? w _ hw415_3)).trans hw415_3), ((HB.out.cell (World.block_lt_of_cell? w _ hw415_4)).trans hw415_4), ((HB.out.cell (World.block_lt_of_cell? w _ hw415_5)).trans hw415_5), ((HB.out.cell (World.block_lt_of_cell? w _ hw415_6)).trans hw415_6), ((HB.out.cell (World.block_lt_of_cell? w _ hw416_0)).trans hw416_0), ((HB.out.cell (World.block_lt_of_cell? w _ hw416_1)).trans hw416_1), ((HB.out.cell (World.block_lt_of_cell? w _ hw416_2)).trans hw416_2), ((HB.out.cell (World.block_lt_of_cell? w _ hw416_3)).trans hw416_3), ((HB.out.cell (World.block_lt_of_cell? w _ hw416_4)).trans hw416_4), ((HB.out.cell (World.block_lt_of_cell? w _ hw416_5)).trans hw416_5), ((HB.out.cell (World.block_lt_of_cell? w _ hw416_6)).trans hw416_6)⟩ (fun hHeld => ?_)
  clear hK K
  refine norm_ (a' := ?_) ?_ ?_
  rotate_left
  ·show Act.put _ (some 25) _ = _
   simp only [Act.put, List.setIfInBounds_toArray, List.set_cons_zero, List.set_cons_succ, i64_w, i32_w]
   rfl
  refine pu_ 9 26 HT_ ?_
  refine done_ (done_of HT_.out (by kernel_rfl)) ?_
  try go_wp2
  go_ret
  exact ⟨er_, bl_⟩
 subst c8
 rw [if_pos rfl] at H
 have H' := Aside0.mk H
 clear H
 try go_wp2
 have n0_ := Aside0.mk (below_drew1 HB.out)
 clear HB
 have HB := n0_
 clear n0_
 have p415 : 0 ≤ (x5_1 : Int) := of_decide_eq_true as_
 have q415 : x5_1 < (l0.length : Int) := of_decide_eq_true as_
 obtain ⟨ad415, A415_5, c415_5, e415, hx415_0, hx415_1, hx415_2, hx415_3, hx415_4, hx415_5, hx415_6, hl415_5, hi415_5⟩ := at_T69 HR0.out x5_1 p415 q415
 have hw415_6 := hx415_6
 have hw415_5 := hx415_5
 have hw415_4 := hx415_4
 have hw415_3 := hx415_3
 have hw415_2 := hx415_2
 have hw415_1 := hx415_1
 have hw415_0 := hx415_0
 cases e415
 replace hx415_0 := (HB.out.cell (World.block_lt_of_cell? w _ hx415_0)).trans hx415_0
 replace hx415_1 := (HB.out.cell (World.block_lt_of_cell? w _ hx415_1)).trans hx415_1
 replace hx415_2 := (HB.out.cell (World.block_lt_of_cell? w _ hx415_2)).trans hx415_2
 replace hx415_3 := (HB.out.cell (World.block_lt_of_cell? w _ hx415_3)).trans hx415_3
 replace hx415_4 := (HB.out.cell (World.block_lt_of_cell? w _ hx415_4)).trans hx415_4
 replace hx415_5 := (HB.out.cell (World.block_lt_of_cell? w _ hx415_5)).trans hx415_5
 replace hx415_6 := (HB.out.cell (World.block_lt_of_cell? w _ hx415_6)).trans hx415_6
 have HR415_5 := Aside0.mk hi415_5
 have HC415_5 := Aside0.mk hl415_5
 clear hi415_5 hl415_5
 replace p415 := eq_true p415
 replace q415 := eq_true q415
 have p416 : 0 ≤ (x5_1 : Int) := of_decide_eq_true as_
 have q416 : x5_1 < (l1.length : Int) := of_decide_eq_true as_
 obtain ⟨ad416, A416_5, c416_5, e416, hx416_0, hx416_1, hx416_2, hx416_3, hx416_4, hx416_5, hx416_6, hl416_5, hi416_5⟩ := at_T69 HR1.out x5_1 p416 q416
 have hw416_6 := hx416_6
 have hw416_5 := hx416_5
 have hw416_4 := hx416_4
 have hw416_3 := hx416_3
 have hw416_2 := hx416_2
 have hw416_1 := hx416_1
 have hw416_0 := hx416_0
 cases e416
 replace hx416_0 := (HB.out.cell (World.block_lt_of_cell? w _ hx416_0)).trans hx416_0
 replace hx416_1 := (HB.out.cell (World.block_lt_of_cell? w _ hx416_1)).trans hx416_1
 replace hx416_2 := (HB.out.cell (World.block_lt_of_cell? w _ hx416_2)).trans hx416_2
 replace hx416_3 := (HB.out.cell (World.block_lt_of_cell? w _ hx416_3)).trans hx416_3
 replace hx416_4 := (HB.out.cell (World.block_lt_of_cell? w _ hx416_4)).trans hx416_4
 replace hx416_5 := (HB.out.cell (World.block_lt_of_cell? w _ hx416_5)).trans hx416_5
 replace hx416_6 := (HB.out.cell (World.block_lt_of_cell? w _ hx416_6)).trans hx416_6
 have HR416_5 := Aside0.mk hi416_5
 have HC416_5 := Aside0.mk hl416_5
 clear hi416_5 hl416_5
 replace p416 := eq_true p416
 replace q416 := eq_true q416
 refine start_ (n := 10) (S := fun w' => w'.cell? (ad415.add ((x5_1).toNat * 7)) = some (.int .i64 ((rd_T69 l0 x5_1).f0)) ∧ w'.cell? ⟨(ad415.add ((x5_1).toNat * 7)).block, (ad415.add ((x5_1).toNat * 7)).off + 1, none⟩ = some (.int .i64 ((rd_T69 l0 x5_1).f1)) ∧ w'.cell? ⟨(ad415.add ((x5_1).toNat * 7)).block, (ad415.add ((x5_1).toNat * 7)).off + 2, none⟩ = some (.int .i64 ((rd_T69 l0 x5_1).f2)) ∧ w'.cell? ⟨(ad415.add ((x5_1).toNat * 7)).block, (ad415.add ((x5_1).toNat * 7)).off + 3, none⟩ = some (.int .i64 ((rd_T69 l0 x5_1).f3.f0)) ∧ w'.cell? ⟨(ad415.add ((x5_1).toNat * 7)).block, (ad415.add ((x5_1).toNat * 7)).off + 4, none⟩ = some (.int .i64 ((rd_T69 l0 x5_1).f3.f1)) ∧ w'.cell? ⟨(ad415.add ((x5_1).toNat * 7)).block, (ad415.add ((x5_1).toNat * 7)).off + 5, none⟩ = some (.slice A415_5 ((rd_T69 l0 x5_1).f3.f2).length c415_5) ∧ w'.cell? ⟨(ad415.add ((x5_1).toNat * 7)).block, (ad415.add ((x5_1).toNat * 7)).off + 6, none⟩ = some (.string ((rd_T69 l0 x5_1).f4)) ∧ w'.cell? (ad416.add ((x5_1).toNat * 7)) = some (.int .i64 ((rd_T69 l1 x5_1).f0)) ∧ w'.cell? ⟨(ad416.add ((x5_1).toNat * 7)).block, (ad416.add ((x5_1).toNat * 7)).off + 1, none⟩ = some (.int .i64 ((rd_T69 l1 x5_1).f1)) ∧ w'.cell? ⟨(ad416.add ((x5_1).toNat * 7)).block, (ad416.add ((x5_1).toNat * 7)).off + 2, none⟩ = some (.int .i64 ((rd_T69 l1 x5_1).f2)) ∧ w'.cell? ⟨(ad416.add ((x5_1).toNat * 7)).block, (ad416.add ((x5_1).toNat * 7)).off + 3, none⟩ = some (.int .i64 ((rd_T69 l1 x5_1).f3.f0)) ∧ w'.cell? ⟨(ad416.add ((x5_1).toNat * 7)).block, (ad416.add ((x5_1).toNat * 7)).off + 4, none⟩ = some (.int .i64 ((rd_T69 l1 x5_1).f3.f1)) ∧ w'.cell? ⟨(ad416.add ((x5_1).toNat * 7)).block, (ad416.add ((x5_1).toNat * 7)).off + 5, none⟩ = some (.slice A416_5 ((rd_T69 l1 x5_1).f3.f2).length c416_5) ∧ w'.cell? ⟨(ad416.add ((x5_1).toNat * 7)).block, (ad416.add ((x5_1).toNat * 7)).off + 6, none⟩ = some (.string ((rd_T69 l1 x5_1).f4))) (ds := []) #[false, false, false, false, false, false, false, false, false, false] (by kernel_rfl) rfl rfl ⟨((HB.out.cell (World.block_lt_of_cell? w _ hw415_0)).trans hw415_0), ((HB.out.cell (World.block_lt_of_cell? w _ hw415_1)).trans hw415_1), ((HB.out.cell (World.block_lt_of_cell? w _ hw415_2)).trans hw415_2), ((HB.out.cell (World.block_lt_of_cell? w _ hw415_3)).trans hw415_3), ((HB.out.cell (World.block_lt_of_cell? w _ hw415_4)).trans hw415_4), ((HB.out.cell (World.block_lt_of_cell? w _ hw415_5)).trans hw415_5), ((HB.out.cell (World.block_lt_of_cell? w _ hw415_6)).trans hw415_6), ((HB.out.cell (World.block_lt_of_cell? w _ hw416_0)).trans hw416_0), ((HB.out.cell (World.block_lt_of_cell? w _ hw416_1)).trans hw416_1), ((HB.out.cell (World.block_lt_of_cell? w _ hw416_2)).trans hw416_2), ((HB.out.cell (World.block_lt_of_cell? w _ hw416_3)).trans hw416_3), ((HB.out.cell (World.block_lt_of_cell? w _ hw416_4)).trans hw416_4), ((HB.out.cell (World.block_lt_of_cell? w _ hw416_5)).trans hw416_5), ((HB.out.cell (World.block_lt_of_cell? w _ hw416_6)).trans hw416_6)⟩ (fun hHeld => ?_); refine with_tabW laws_eqEventS.tab6 laws_eqEventS.bits6 (fun HT_ HW_ => ?_)
 generalize wr.drew = w9 at HB HR415_5 HR416_5 hx415_0 hx415_1 hx415_2 hx415_3 hx415_4 hx415_5 hx415_6 hx416_0 hx416_1 hx416_2 hx416_3 hx416_4 hx416_5 hx416_6 hHeld ⊢
 refine pu_ 0 17 HT_ ?_
 refine pu_ 1 18 HT_ ?_
 refine pu_ 2 19 HT_ ?_
 refine pu_ 4 21 HT_ ?_
 refine pu_ 5 22 HT_ ?_
 refine pu_ 6 23 HT_ ?_
 refine ta_ 3 20 HT_ HW_ hHeld ?_ (r := by rintro w' ⟨s0, s1, s2, s3, s4, s5, s6, s7, s8, s9, s10, s11, s12, s13⟩; go_simp; with_reducible rfl)
 refine ta_ 7 24 HT_ HW_ hHeld ?_ (r := by rintro w' ⟨s0, s1, s2, s3, s4, s5, s6, s7, s8, s9, s10, s11, s12, s13⟩; go_simp; with_reducible rfl)
 refine on_ 8 25 HT_ (fun K hK => ?_)
 refine goes_ Try.func48 (by kernel_rfl) rfl #[.agg #[.int .i64 ((rd_T69 l0 x5_1).f0), .int .i64 ((rd_T69 l0 x5_1).f1), .int .i64 ((rd_T69 l0 x5_1).f2), .int .i64 ((rd_T69 l0 x5_1).f3.f0), .int .i64 ((rd_T69 l0 x5_1).f3.f1), .slice A415_5 ((rd_T69 l0 x5_1).f3.f2).length c415_5, .string ((rd_T69 l0 x5_1).f4)], .agg #[.int .i64 ((rd_T69 l1 x5_1).f0), .int .i64 ((rd_T69 l1 x5_1).f1), .int .i64 ((rd_T69 l1 x5_1).f2), .int .i64 ((rd_T69 l1 x5_1).f3.f0), .int .i64 ((rd_T69 l1 x5_1).f3.f1), .slice A416_5 ((rd_T69 l1 x5_1).f3.f2).length c416_5, .string ((rd_T69 l1 x5_1).f4)]] (by rfl) rfl rfl lm_ ?_
 with_reducible refine (laws_eqEvent.calls k1 ((rd_T69 l0 x5_1).f0) ((rd_T69 l0 x5_1).f1) ((rd_T69 l0 x5_1).f2) ((rd_T69 l0 x5_1).f3.f0) ((rd_T69 l0 x5_1).f3.f1) _ _ ((rd_T69 l0 x5_1).f3.f2) ((rd_T69 l0 x5_1).f4) ((rd_T69 l1 x5_1).f0) ((rd_T69 l1 x5_1).f1) ((rd_T69 l1 x5_1).f2) ((rd_T69 l1 x5_1).f3.f0) ((rd_T69 l1 x5_1).f3.f1) _ _ ((rd_T69 l1 x5_1).f3.f2) ((rd_T69 l1 x5_1).f4) true _ ?side1 ?side2 ?side3 ?side4 A7.out).mono ?_
 (case side1 => exact cb_ HR415_5.out HB.out)
 (case side2 => exact HC415_5.out)
 (case side3 => exact cb_ HR416_5.out HB.out)
 (case side4 => exact HC416_5.out)
 rintro e w10 ⟨rfl, hb⟩
 refine ⟨_, rfl, ?_⟩
 have n0_ := Aside0.mk (below_step bl_ hb)
 clear HB
 have HB := n0_
 clear n0_
 (try clear hb)
 (try clear hb2)
 (try clear hk)
 (try clear hi)
 refine hK.out _ _ ⟨((HB.out.cell (World.block_lt_of_cell? w _ hw415_0)).trans hw415_0), ((HB.out.cell (World.block_lt_of_cell? w _ hw415_1)).trans hw415_1), ((HB.out.cell (World.block_lt_of_cell? w _ hw415_2)).trans hw415_2), ((HB.out.cell (World.block_lt_of_cell? w _ hw415_3)).trans hw415_3), ((HB.out.cell (World.block_lt_of_cell? w _ hw415_4)).trans hw415_4), ((HB.out.cell (World.block_lt_of_cell? w _ hw415_5)).trans hw415_5), ((HB.out.cell (World.block_lt_of_cell? w _ hw415_6)).trans hw415_6), ((HB.out.cell (World.block_lt_of_cell? w _ hw416_0)).trans hw416_0), ((HB.out.cell (World.block_lt_of_cell? w _ hw416_1)).trans hw416_1), ((HB.out.cell (World.block_lt_of_cell? w _ hw416_2)).trans hw416_2), ((HB.out.cell (World.block_lt_of_cell? w _ hw416_3)).trans hw416_3), ((HB.out.cell (World.block_lt_of_cell? w _ hw416_4)).trans hw416_4), ((HB.out.cell (World.block_lt_of_cell? w _ hw416_5)).trans hw416_5), ((HB.out.cell (World.block_lt_of_cell? w _ hw416_6)).trans hw416_6)⟩ (fun hHeld => ?_)
 clear hK K
 refine norm_ (a' := ?_) ?_ ?_
 rotate_left
 ·show Act.put _ (some 25) _ = _
  simp only [Act.put, List.setIfInBounds_toArray, List.set_cons_zero, List.set_cons_succ, i64_w, i32_w]
  rfl
 refine pu_ 9 26 HT_ ?_
 refine done_ (done_of HT_.out (by kernel_rfl)) ?_
 try go_wp2
 go_roundg k1
 case measure => have := HK1.out; omega
 case rel => exact ⟨(wrap64 (x5_1 + 1)), (sr_), H', ⟨by have := HK1.out; omega⟩, ⟨bl_⟩⟩


def laws_markWideS.l0 : Nat → List (S98) → Int → Int → Option (Int × (List (S98)))
 | 0, _, _, _ => none
 | k + 1, x0, x1, x5 => if x5 < (x0.length : Int) then (if 0 ≤ x5 then ((some (x0.set (x5 : Int).toNat (⟨x1, (rd_T98 x0 x5).f1⟩ : S98) : List (S98))).bind fun y418 => (laws_markWideS.l0 k (y418.set (x5 : Int).toNat (⟨(rd_T98 y418 x5).f0, wrap64 (x1 + 1)⟩ : S98)) (wrap64 ((wrap64 (x1 + 1)) + 1)) (wrap64 (x5 + 1)))) else (none)) else (some (x1, x0))
def laws_markWideS.f (k : Nat) (l0 : List (S98)) (a1 : Int) : Option (Int × (List (S98))) := laws_markWideS.l0 k l0 a1 0
theorem laws_markWideS.mono_l : ∀ k, (∀ y0 y1 y2, LeO (laws_markWideS.l0 k y0 y1 y2) (laws_markWideS.l0 (k + 1) y0 y1 y2))
 | 0 => fun _ _ _ r h => by simp [laws_markWideS.l0] at h
 | k + 1 => by
  have ih0 := laws_markWideS.mono_l k
  ·intro y0 y1 y2
   unfold laws_markWideS.l0
   exact mo_
theorem laws_markWideS.mono : ∀ a0 a1 k, LeO (laws_markWideS.f k a0 a1) (laws_markWideS.f (k + 1) a0 a1) := by
 intro a0 a1 k
 have ih0 := laws_markWideS.mono_l k
 unfold laws_markWideS.f
 exact mo_
theorem laws_markWideS.calls (k : Nat) (P0_ : Nat → Prop) (u9000_ : Value) (l0 : List (S98)) (a1 : Int) (r1 : Int) (r2 : List (S98)) (w0 w : World) (hB : Below w0.heap.size w0 w) (ho0 : Kd.R k98 98 w w0.heap.size P0_ u9000_ l0) (h : laws_markWideS.f k l0 a1 = some (r1, r2)) :
 Calls Try.prog 49 #[u9000_, .int .i64 a1] w fun e w' => e = .returned (.int .i64 r1) ∧ Kd.R k98 98 w' w0.heap.size (fun k_ => (P0_ k_ ∨ w.heap.size ≤ k_)) u9000_ r2 ∧ Below w0.heap.size w0 w' ∧ Kept w w' (fun k_ => P0_ k_) := by
 have HO0 := Aside0.mk (show Kd.R k98 98 w w0.heap.size (fun k_ => (P0_ k_ ∨ w.heap.size ≤ k_)) u9000_ l0 from Kd.R_mono ho0 (fun k_ hk => (.inl hk)))
 have HK := Aside0.mk (Kept.refl w (fun k_ => P0_ k_))
 have HW0 := Aside0.mk hB.size
 have HB := Aside0.mk hB
 clear hB
 have H := h
 unfold laws_markWideS.f at H
 clear h
 have H' := Aside0.mk H
 clear H
 go_enter Try.func49, Try.ntmps49
 go_wp2
 go_loopg [1, 5] k (fun kq v1 v5 w' => ∃ (x0_1 : List (S98)) (x1_1 : Int) (x5_1 : Int), v1 = .int .i64 x1_1 ∧ v5 = .int .i64 x5_1 ∧ Aside0 (laws_markWideS.l0 kq x0_1 x1_1 x5_1 = some (r1, r2)) ∧ Aside0 (kq ≤ k) ∧ Aside0 (Kd.R k98 98 w' w0.heap.size (fun k_ => (P0_ k_ ∨ w.heap.size ≤ k_)) u9000_ x0_1) ∧ Aside0 (Kept w w' (fun k_ => P0_ k_)) ∧ Aside0 (Below w0.heap.size w0 w'))
 case atStart => exact ⟨(l0), (a1), (0), (sr_), (sr_), H', ⟨Nat.le_refl _⟩, ⟨ra_ HO0.out⟩, ⟨by repeat (first | (with_reducible first | exact HK.out | apply Kept.alloc | apply Kept.drewN | apply Kept.drew) | exact HK.out)⟩, ⟨bl_⟩⟩
 clear H'
 obtain ⟨x0_1, x1_1, x5_1, rfl, rfl, HA, HK1, HO_0, HK, HB⟩ := hrel
 cases gk with
 | zero => exact absurd HA.out (by simp [laws_markWideS.l0])
 | succ k1 => ?_
 have H := HA.out
 clear HA
 simp only [laws_markWideS.l0] at H
 by_cases c3 : x5_1 < (x0_1.length : Int)
 rotate_left
 ·rw [if_neg c3] at H
  have c3b0 := decide_eq_false c3
  clear c3
  simp only [Option.some.injEq, Prod.mk.injEq] at H
  obtain ⟨rfl, rfl⟩ := H
  obtain ⟨Ao12, co12, eo12⟩ := Kd.R_slice HO_0.out
  subst eo12
  go_wp2
  go_ret
  exact ⟨er_, ra_ HO_0.out, bl_, by repeat (first | (with_reducible first | exact HK.out | apply Kept.alloc | apply Kept.drewN | apply Kept.drew) | exact HK.out)⟩
 rw [if_pos c3] at H
 have c3b0 := decide_eq_true c3
 clear c3
 by_cases c4 : 0 ≤ x5_1
 rotate_left
 ·exact nn_ c4 H
 rw [if_pos c4] at H
 have c4b0 := decide_eq_true c4
 clear c4
 obtain ⟨y418, hy418⟩ : ∃ y_ : List (S98), y_ = (x0_1.set (x5_1 : Int).toNat (⟨x1_1, (rd_T98 x0_1 x5_1).f1⟩ : S98)) := ⟨_, rfl⟩
 replace H : (laws_markWideS.l0 k1 (y418.set (x5_1 : Int).toNat (⟨(rd_T98 y418 x5_1).f0, wrap64 (x1_1 + 1)⟩ : S98)) (wrap64 ((wrap64 (x1_1 + 1)) + 1)) (wrap64 (x5_1 + 1))) = some (r1, r2) := rp_ H hy418
 have Ny418 := Aside0.mk hy418
 clear hy418
 obtain ⟨y419, hy419⟩ : ∃ y_ : List (S98), y_ = (y418.set (x5_1 : Int).toNat (⟨(rd_T98 y418 x5_1).f0, wrap64 (x1_1 + 1)⟩ : S98)) := ⟨_, rfl⟩
 replace H : (laws_markWideS.l0 k1 y419 (wrap64 ((wrap64 (x1_1 + 1)) + 1)) (wrap64 (x5_1 + 1))) = some (r1, r2) := rp_ H hy419
 have Ny419 := Aside0.mk hy419
 clear hy419
 have H' := Aside0.mk H
 clear H
 obtain ⟨Ao7, co7, eo7⟩ := Kd.R_slice HO_0.out
 subst eo7
 have p5 : 0 ≤ (x5_1 : Int) := of_decide_eq_true as_
 have q5 : (x5_1 : Int) < ((x0_1.length : Int) : Int) := of_decide_eq_true as_
 obtain ⟨go5, co5, eo5, gb5, gl5, cl5, HG5⟩ := Kd.R_form HO_0.out (by omega)
 (first | cases eo5 | (injection eo5 with ea_ en_ ec_; (first | subst ea_ | (injection ea_ with ea_; subst ea_)); subst ec_; clear en_))
 have GB5 := Aside0.mk gb5
 have GG5 := Aside0.mk HG5
 clear gb5 gl5 HG5
 have HMgo5 := Aside0.mk (show (P0_ go5 ∨ w.heap.size ≤ go5) from (HO_0.out.1 _ rfl))
 obtain ⟨ce5, hcl5, hM5, hcc5, hfr5⟩ := Kd.R_elem HO_0.out z98 (x5_1 : Int) p5 q5
 obtain rfl := k98_openM hM5
 have hx5_0 : wr.cell? ⟨go5, (x5_1 : Int).toNat * 2, none⟩ = some (.int .i64 ((rd_T98 x0_1 x5_1).f0)) := hcc5 0 _ rfl
 have hx5_1 : wr.cell? ⟨go5, (x5_1 : Int).toNat * 2 + 1, none⟩ = some (.int .i64 ((rd_T98 x0_1 x5_1).f1)) := hcc5 1 _ rfl
 have hf5_0 : wr.frozen? ⟨go5, (x5_1 : Int).toNat * 2, none⟩ = false := hfr5 0
 have hf5_1 : wr.frozen? ⟨go5, (x5_1 : Int).toNat * 2 + 1, none⟩ = false := hfr5 1
 clear hcl5 hcc5 hfr5 hM5
 replace p5 := eq_true p5
 replace q5 := eq_true q5
 have HX8 := Aside0.mk (show Kd.R k98 98 wr w0.heap.size (fun k_ => (P0_ k_ ∨ w.heap.size ≤ k_)) (.slice (some ⟨go5, 0, none⟩) x0_1.length co7) x0_1 from (ra_ HO_0.out))
 obtain ⟨ce8, hcl8, hM8, hcc8, hfr8⟩ := Kd.R_elem HX8.out z98 (x5_1 : Int) (of_decide_eq_true as_) (by have h_ : (x5_1 : Int) < ((x0_1.length : Int) : Int) := of_decide_eq_true as_; first | exact h_ | (have e_ := (Kd.R_reads' HO_0.out).1; omega) | simpa using h_)
 obtain rfl := k98_openM hM8
 have HP8 := Kd.R_seg HX8.out (x5_1 : Int) (of_decide_eq_true as_) (by have h_ : (x5_1 : Int) < ((x0_1.length : Int) : Int) := of_decide_eq_true as_; first | exact h_ | (have e_ := (Kd.R_reads' HO_0.out).1; omega) | simpa using h_) (seg := [.int .i64 x1_1]) (j := 0) hcl8 hcc8 (show 1 ≤ 2 from by decide) (x' := (⟨x1_1, (rd_T98 x0_1 x5_1).f1⟩ : S98)) (k98_mkM _ _ _ (⟨x1_1, (rd_T98 x0_1 x5_1).f1⟩ : S98) ) (fun _ hk => hk)
 have hx8_0 := hcc8 0 _ rfl
 (try simp only [show (k98).sz = 2 from rfl, Nat.mul_one, Nat.add_zero] at hx8_0)
 have hf8_0 := hfr8 0
 (try simp only [show (k98).sz = 2 from rfl, Nat.mul_one, Nat.add_zero] at hf8_0)
 clear hcl8 hcc8 hfr8 hM8
 go_wp2_with (first | ((with_reducible refine gate_store (t := 3) (p := 16) rfl ?_); refine store_event (t := 3) (p := 16) (v := ?vo_w9) (w1 := (wr.setCell ⟨go5, (x5_1 : Int).toNat * 2, none⟩ (.int .i64 x1_1))) ?hg ?ho ?hn ?hr ?_; (case ho => rfl); (case hg => rfl); (case hn => rfl); (case hr => first | (go_simp; done) | (go_simp; rfl)); intro w9 hw; have hg : wr.grownBy w9 (some go5) := (by rw [hw]; exact HP8.2); have hp_ : Kd.R k98 98 w9 w0.heap.size (fun k_ => (P0_ k_ ∨ w.heap.size ≤ k_)) (.slice (some ⟨go5, 0, none⟩) x0_1.length co7) y418 := (by rw [hw, Ny418.out]; exact HP8.1); clear HP8; replace HB := Aside0.mk ((by rw [hw]; exact below_set (HB.out) GB5.out : Below w0.heap.size w0 w9)); replace HK := Aside0.mk (Kept.of_grown (S := (fun k_ => P0_ k_)) hg (by repeat (first | (with_reducible first | exact HK.out | apply Kept.alloc | apply Kept.drewN | apply Kept.drew) | exact HK.out)) (fun k_ e_ => (HO_0.out.1 k_ e_))); replace HO_0 := Aside0.mk (hp_); clear hg hw hp_; have p6 : 0 ≤ (x5_1 : Int) := of_decide_eq_true as_; have q6 : (x5_1 : Int) < ((x0_1.length : Int) : Int) := of_decide_eq_true as_; obtain ⟨ce6, hcl6, hM6, hcc6, hfr6⟩ := Kd.R_elem HO_0.out z98 (x5_1 : Int) p6 q6; obtain rfl := k98_openM hM6; have hx6_0 : w9.cell? ⟨go5, (x5_1 : Int).toNat * 2, none⟩ = some (.int .i64 ((rd_T98 y418 x5_1).f0)) := hcc6 0 _ rfl; have hx6_1 : w9.cell? ⟨go5, (x5_1 : Int).toNat * 2 + 1, none⟩ = some (.int .i64 ((rd_T98 y418 x5_1).f1)) := hcc6 1 _ rfl; have hf6_0 : w9.frozen? ⟨go5, (x5_1 : Int).toNat * 2, none⟩ = false := hfr6 0; have hf6_1 : w9.frozen? ⟨go5, (x5_1 : Int).toNat * 2 + 1, none⟩ = false := hfr6 1; clear hcl6 hcc6 hfr6 hM6; replace p6 := eq_true p6; replace q6 := eq_true q6; have HX10 := Aside0.mk (show Kd.R k98 98 w9 w0.heap.size (fun k_ => (P0_ k_ ∨ w.heap.size ≤ k_)) (.slice (some ⟨go5, 0, none⟩) x0_1.length co7) y418 from (ra_ HO_0.out)); obtain ⟨ce10, hcl10, hM10, hcc10, hfr10⟩ := Kd.R_elem HX10.out z98 (x5_1 : Int) (of_decide_eq_true as_) (by have h_ : (x5_1 : Int) < ((x0_1.length : Int) : Int) := of_decide_eq_true as_; first | exact h_ | (have e_ := (Kd.R_reads' HO_0.out).1; omega) | simpa using h_); obtain rfl := k98_openM hM10; have HP10 := Kd.R_seg HX10.out (x5_1 : Int) (of_decide_eq_true as_) (by have h_ : (x5_1 : Int) < ((x0_1.length : Int) : Int) := of_decide_eq_true as_; first | exact h_ | (have e_ := (Kd.R_reads' HO_0.out).1; omega) | simpa using h_) (seg := [.int .i64 (wrap64 (x1_1 + 1))]) (j := 1) hcl10 hcc10 (show 2 ≤ 2 from by decide) (x' := (⟨(rd_T98 y418 x5_1).f0, wrap64 (x1_1 + 1)⟩ : S98)) (k98_mkM _ _ _ (⟨(rd_T98 y418 x5_1).f0, wrap64 (x1_1 + 1)⟩ : S98) ) (fun _ hk => hk); have hx10_1 := hcc10 1 _ rfl; (try simp only [show (k98).sz = 2 from rfl, Nat.mul_one, Nat.add_zero] at hx10_1); have hf10_1 := hfr10 1; (try simp only [show (k98).sz = 2 from rfl, Nat.mul_one, Nat.add_zero] at hf10_1); clear hcl10 hcc10 hfr10 hM10) | ((with_reducible refine gate_store (t := 3) (p := 23) rfl ?_); refine store_event (t := 3) (p := 23) (v := ?vo_w11) (w1 := (w9.setCell ⟨go5, (x5_1 : Int).toNat * 2 + 1, none⟩ (.int .i64 (wrap64 (x1_1 + 1))))) ?hg ?ho ?hn ?hr ?_; (case ho => rfl); (case hg => rfl); (case hn => rfl); (case hr => first | (go_simp; done) | (go_simp; rfl)); intro w11 hw; have hg : w9.grownBy w11 (some go5) := (by rw [hw]; exact HP10.2); have hp_ : Kd.R k98 98 w11 w0.heap.size (fun k_ => (P0_ k_ ∨ w.heap.size ≤ k_)) (.slice (some ⟨go5, 0, none⟩) x0_1.length co7) y419 := (by rw [hw, Ny419.out]; exact HP10.1); clear HP10; replace HB := Aside0.mk ((by rw [hw]; exact below_set (HB.out) GB5.out : Below w0.heap.size w0 w11)); replace HK := Aside0.mk (Kept.of_grown (S := (fun k_ => P0_ k_)) hg (by repeat (first | (with_reducible first | exact HK.out | apply Kept.alloc | apply Kept.drewN | apply Kept.drew) | exact HK.out)) (fun k_ e_ => (HO_0.out.1 k_ e_))); replace HO_0 := Aside0.mk (hp_); clear hg hw hp_))
 go_roundg k1
 case measure => have := HK1.out; omega
 case rel => exact ⟨(y419), (wrap64 ((wrap64 (x1_1 + 1)) + 1)), (wrap64 (x5_1 + 1)), (sr_), (sr_), H', ⟨by have := HK1.out; omega⟩, ⟨ra_ HO_0.out⟩, ⟨by repeat (first | (with_reducible first | exact HK.out | apply Kept.alloc | apply Kept.drewN | apply Kept.drew) | exact HK.out)⟩, ⟨bl_⟩⟩


def laws_markEventS.l0 : Nat → List (S69) → Int → Int → Option (Int × (List (S69)))
 | 0, _, _, _ => none
 | k + 1, x0, x1, x5 => if x5 < (x0.length : Int) then (if 0 ≤ x5 then ((some (x0.set (x5 : Int).toNat (⟨x1, (rd_T69 x0 x5).f1, (rd_T69 x0 x5).f2, (⟨(rd_T69 x0 x5).f3.f0, (rd_T69 x0 x5).f3.f1, (rd_T69 x0 x5).f3.f2⟩ : S47), (rd_T69 x0 x5).f4⟩ : S69) : List (S69))).bind fun y420 => ((some (y420.set (x5 : Int).toNat (⟨(rd_T69 y420 x5).f0, wrap64 (x1 + 1), (rd_T69 y420 x5).f2, (⟨(rd_T69 y420 x5).f3.f0, (rd_T69 y420 x5).f3.f1, (rd_T69 y420 x5).f3.f2⟩ : S47), (rd_T69 y420 x5).f4⟩ : S69) : List (S69))).bind fun y421 => ((some (y421.set (x5 : Int).toNat (⟨(rd_T69 y421 x5).f0, (rd_T69 y421 x5).f1, wrap64 ((wrap64 (x1 + 1)) + 1), (⟨(rd_T69 y421 x5).f3.f0, (rd_T69 y421 x5).f3.f1, (rd_T69 y421 x5).f3.f2⟩ : S47), (rd_T69 y421 x5).f4⟩ : S69) : List (S69))).bind fun y422 => ((some (y422.set (x5 : Int).toNat (⟨(rd_T69 y422 x5).f0, (rd_T69 y422 x5).f1, (rd_T69 y422 x5).f2, (⟨wrap64 ((wrap64 ((wrap64 (x1 + 1)) + 1)) + 1), (rd_T69 y422 x5).f3.f1, (rd_T69 y422 x5).f3.f2⟩ : S47), (rd_T69 y422 x5).f4⟩ : S69) : List (S69))).bind fun y423 => ((some (y423.set (x5 : Int).toNat (⟨(rd_T69 y423 x5).f0, (rd_T69 y423 x5).f1, (rd_T69 y423 x5).f2, (⟨(rd_T69 y423 x5).f3.f0, wrap64 ((wrap64 ((wrap64 ((wrap64 (x1 + 1)) + 1)) + 1)) + 1), (rd_T69 y423 x5).f3.f2⟩ : S47), (rd_T69 y423 x5).f4⟩ : S69) : List (S69))).bind fun y424 => ((laws_markWideS.f k ((rd_T69 y424 x5).f3.f2) (wrap64 ((wrap64 ((wrap64 ((wrap64 ((wrap64 (x1 + 1)) + 1)) + 1)) + 1)) + 1))).bind fun bt9426 => ((some (y424.set (x5 : Int).toNat (⟨(rd_T69 y424 x5).f0, (rd_T69 y424 x5).f1, (rd_T69 y424 x5).f2, (⟨(rd_T69 y424 x5).f3.f0, (rd_T69 y424 x5).f3.f1, bt9426.2⟩ : S47), (rd_T69 y424 x5).f4⟩ : S69)) : Option (List (S69))).bind fun y9426 => ((laws_markText.f k bt9426.1).bind fun t427 => (laws_markEventS.l0 k (y9426.set (x5 : Int).toNat (⟨(rd_T69 y9426 x5).f0, (rd_T69 y9426 x5).f1, (rd_T69 y9426 x5).f2, (⟨(rd_T69 y9426 x5).f3.f0, (rd_T69 y9426 x5).f3.f1, (rd_T69 y9426 x5).f3.f2⟩ : S47), t427⟩ : S69)) (wrap64 (bt9426.1 + 1)) (wrap64 (x5 + 1))))))))))) else (none)) else (some (x1, x0))
def laws_markEventS.f (k : Nat) (l0 : List (S69)) (a1 : Int) : Option (Int × (List (S69))) := laws_markEventS.l0 k l0 a1 0
theorem laws_markEventS.mono_l : ∀ k, (∀ y0 y1 y2, LeO (laws_markEventS.l0 k y0 y1 y2) (laws_markEventS.l0 (k + 1) y0 y1 y2))
 | 0 => fun _ _ _ r h => by simp [laws_markEventS.l0] at h
 | k + 1 => by
  have ih0 := laws_markEventS.mono_l k
  ·intro y0 y1 y2
   unfold laws_markEventS.l0
   have m0 := @laws_markWideS.mono
   have m1 := @laws_markText.mono
   exact mo_
theorem laws_markEventS.mono : ∀ a0 a1 k, LeO (laws_markEventS.f k a0 a1) (laws_markEventS.f (k + 1) a0 a1) := by
 intro a0 a1 k
 have ih0 := laws_markEventS.mono_l k
 unfold laws_markEventS.f
 have m0 := @laws_markWideS.mono
 have m1 := @laws_markText.mono
 exact mo_
theorem laws_markEventS.calls (k : Nat) (P0_ : Nat → Prop) (u9000_ : Value) (l0 : List (S69)) (a1 : Int) (r1 : Int) (r2 : List (S69)) (w0 w : World) (hB : Below w0.heap.size w0 w) (ho0 : Kd.S k69 69 w w0.heap.size P0_ u9000_ l0) (h : laws_markEventS.f k l0 a1 = some (r1, r2)) :
 Calls Try.prog 10 #[u9000_, .int .i64 a1] w fun e w' => e = .returned (.int .i64 r1) ∧ Kd.S k69 69 w' w0.heap.size (fun k_ => (P0_ k_ ∨ w.heap.size ≤ k_)) u9000_ r2 ∧ Below w0.heap.size w0 w' ∧ Kept w w' (fun k_ => P0_ k_) := by
 have HO0 := Aside0.mk (show Kd.S k69 69 w w0.heap.size (fun k_ => (P0_ k_ ∨ w.heap.size ≤ k_)) u9000_ l0 from Kd.S_mono ho0 (fun k_ hk => (.inl hk)))
 have HK := Aside0.mk (Kept.refl w (fun k_ => P0_ k_))
 have HW0 := Aside0.mk hB.size
 have HB := Aside0.mk hB
 clear hB
 have H := h
 unfold laws_markEventS.f at H
 clear h
 have H' := Aside0.mk H
 clear H
 go_enter Try.func10, Try.ntmps10
 go_wp2
 go_loopg [1, 5] k (fun kq v1 v5 w' => ∃ (x0_1 : List (S69)) (x1_1 : Int) (x5_1 : Int), v1 = .int .i64 x1_1 ∧ v5 = .int .i64 x5_1 ∧ Aside0 (laws_markEventS.l0 kq x0_1 x1_1 x5_1 = some (r1, r2)) ∧ Aside0 (kq ≤ k) ∧ Aside0 (Kd.S k69 69 w' w0.heap.size (fun k_ => (P0_ k_ ∨ w.heap.size ≤ k_)) u9000_ x0_1) ∧ Aside0 (Kept w w' (fun k_ => P0_ k_)) ∧ Aside0 (Below w0.heap.size w0 w'))
 case atStart => exact ⟨(l0), (a1), (0), (sr_), (sr_), H', ⟨Nat.le_refl _⟩, ⟨by (with_reducible repeat (first | apply Kd.S_alloc | apply Kd.S_drewN | apply Kd.S_drew)); exact HO0.out⟩, ⟨by repeat (first | (with_reducible first | exact HK.out | apply Kept.alloc | apply Kept.drewN | apply Kept.drew) | exact HK.out)⟩, ⟨bl_⟩⟩
 clear H'
 obtain ⟨x0_1, x1_1, x5_1, rfl, rfl, HA, HK1, HO_0, HK, HB⟩ := hrel
 cases gk with
 | zero => exact absurd HA.out (by simp [laws_markEventS.l0])
 | succ k1 => ?_
 have H := HA.out
 clear HA
 simp only [laws_markEventS.l0] at H
 by_cases c3 : x5_1 < (x0_1.length : Int)
 rotate_left
 ·rw [if_neg c3] at H
  have c3b0 := decide_eq_false c3
  clear c3
  simp only [Option.some.injEq, Prod.mk.injEq] at H
  obtain ⟨rfl, rfl⟩ := H
  obtain ⟨Ao27, co27, eo27⟩ := Kd.S_slice HO_0.out
  subst eo27
  go_wp2
  go_ret
  exact ⟨er_, by (with_reducible repeat (first | apply Kd.S_alloc | apply Kd.S_drewN | apply Kd.S_drew)); exact HO_0.out, bl_, by repeat (first | (with_reducible first | exact HK.out | apply Kept.alloc | apply Kept.drewN | apply Kept.drew) | exact HK.out)⟩
 rw [if_pos c3] at H
 have c3b0 := decide_eq_true c3
 clear c3
 by_cases c4 : 0 ≤ x5_1
 rotate_left
 ·exact nn_ c4 H
 rw [if_pos c4] at H
 have c4b0 := decide_eq_true c4
 clear c4
 obtain ⟨y420, hy420⟩ : ∃ y_ : List (S69), y_ = (x0_1.set (x5_1 : Int).toNat (⟨x1_1, (rd_T69 x0_1 x5_1).f1, (rd_T69 x0_1 x5_1).f2, (⟨(rd_T69 x0_1 x5_1).f3.f0, (rd_T69 x0_1 x5_1).f3.f1, (rd_T69 x0_1 x5_1).f3.f2⟩ : S47), (rd_T69 x0_1 x5_1).f4⟩ : S69)) := ⟨_, rfl⟩
 replace H : ((some (y420.set (x5_1 : Int).toNat (⟨(rd_T69 y420 x5_1).f0, wrap64 (x1_1 + 1), (rd_T69 y420 x5_1).f2, (⟨(rd_T69 y420 x5_1).f3.f0, (rd_T69 y420 x5_1).f3.f1, (rd_T69 y420 x5_1).f3.f2⟩ : S47), (rd_T69 y420 x5_1).f4⟩ : S69) : List (S69))).bind fun y421 => ((some (y421.set (x5_1 : Int).toNat (⟨(rd_T69 y421 x5_1).f0, (rd_T69 y421 x5_1).f1, wrap64 ((wrap64 (x1_1 + 1)) + 1), (⟨(rd_T69 y421 x5_1).f3.f0, (rd_T69 y421 x5_1).f3.f1, (rd_T69 y421 x5_1).f3.f2⟩ : S47), (rd_T69 y421 x5_1).f4⟩ : S69) : List (S69))).bind fun y422 => ((some (y422.set (x5_1 : Int).toNat (⟨(rd_T69 y422 x5_1).f0, (rd_T69 y422 x5_1).f1, (rd_T69 y422 x5_1).f2, (⟨wrap64 ((wrap64 ((wrap64 (x1_1 + 1)) + 1)) + 1), (rd_T69 y422 x5_1).f3.f1, (rd_T69 y422 x5_1).f3.f2⟩ : S47), (rd_T69 y422 x5_1).f4⟩ : S69) : List (S69))).bind fun y423 => ((some (y423.set (x5_1 : Int).toNat (⟨(rd_T69 y423 x5_1).f0, (rd_T69 y423 x5_1).f1, (rd_T69 y423 x5_1).f2, (⟨(rd_T69 y423 x5_1).f3.f0, wrap64 ((wrap64 ((wrap64 ((wrap64 (x1_1 + 1)) + 1)) + 1)) + 1), (rd_T69 y423 x5_1).f3.f2⟩ : S47), (rd_T69 y423 x5_1).f4⟩ : S69) : List (S69))).bind fun y424 => ((laws_markWideS.f k1 ((rd_T69 y424 x5_1).f3.f2) (wrap64 ((wrap64 ((wrap64 ((wrap64 ((wrap64 (x1_1 + 1)) + 1)) + 1)) + 1)) + 1))).bind fun bt9426 => ((some (y424.set (x5_1 : Int).toNat (⟨(rd_T69 y424 x5_1).f0, (rd_T69 y424 x5_1).f1, (rd_T69 y424 x5_1).f2, (⟨(rd_T69 y424 x5_1).f3.f0, (rd_T69 y424 x5_1).f3.f1, bt9426.2⟩ : S47), (rd_T69 y424 x5_1).f4⟩ : S69)) : Option (List (S69))).bind fun y9426 => ((laws_markText.f k1 bt9426.1).bind fun t427 => (laws_markEventS.l0 k1 (y9426.set (x5_1 : Int).toNat (⟨(rd_T69 y9426 x5_1).f0, (rd_T69 y9426 x5_1).f1, (rd_T69 y9426 x5_1).f2, (⟨(rd_T69 y9426 x5_1).f3.f0, (rd_T69 y9426 x5_1).f3.f1, (rd_T69 y9426 x5_1).f3.f2⟩ : S47), t427⟩ : S69)) (wrap64 (bt9426.1 + 1)) (wrap64 (x5_1 + 1)))))))))) = some (r1, r2) := rp_ H hy420
 have Ny420 := Aside0.mk hy420
 clear hy420
 obtain ⟨y421, hy421⟩ : ∃ y_ : List (S69), y_ = (y420.set (x5_1 : Int).toNat (⟨(rd_T69 y420 x5_1).f0, wrap64 (x1_1 + 1), (rd_T69 y420 x5_1).f2, (⟨(rd_T69 y420 x5_1).f3.f0, (rd_T69 y420 x5_1).f3.f1, (rd_T69 y420 x5_1).f3.f2⟩ : S47), (rd_T69 y420 x5_1).f4⟩ : S69)) := ⟨_, rfl⟩
 replace H : ((some (y421.set (x5_1 : Int).toNat (⟨(rd_T69 y421 x5_1).f0, (rd_T69 y421 x5_1).f1, wrap64 ((wrap64 (x1_1 + 1)) + 1), (⟨(rd_T69 y421 x5_1).f3.f0, (rd_T69 y421 x5_1).f3.f1, (rd_T69 y421 x5_1).f3.f2⟩ : S47), (rd_T69 y421 x5_1).f4⟩ : S69) : List (S69))).bind fun y422 => ((some (y422.set (x5_1 : Int).toNat (⟨(rd_T69 y422 x5_1).f0, (rd_T69 y422 x5_1).f1, (rd_T69 y422 x5_1).f2, (⟨wrap64 ((wrap64 ((wrap64 (x1_1 + 1)) + 1)) + 1), (rd_T69 y422 x5_1).f3.f1, (rd_T69 y422 x5_1).f3.f2⟩ : S47), (rd_T69 y422 x5_1).f4⟩ : S69) : List (S69))).bind fun y423 => ((some (y423.set (x5_1 : Int).toNat (⟨(rd_T69 y423 x5_1).f0, (rd_T69 y423 x5_1).f1, (rd_T69 y423 x5_1).f2, (⟨(rd_T69 y423 x5_1).f3.f0, wrap64 ((wrap64 ((wrap64 ((wrap64 (x1_1 + 1)) + 1)) + 1)) + 1), (rd_T69 y423 x5_1).f3.f2⟩ : S47), (rd_T69 y423 x5_1).f4⟩ : S69) : List (S69))).bind fun y424 => ((laws_markWideS.f k1 ((rd_T69 y424 x5_1).f3.f2) (wrap64 ((wrap64 ((wrap64 ((wrap64 ((wrap64 (x1_1 + 1)) + 1)) + 1)) + 1)) + 1))).bind fun bt9426 => ((some (y424.set (x5_1 : Int).toNat (⟨(rd_T69 y424 x5_1).f0, (rd_T69 y424 x5_1).f1, (rd_T69 y424 x5_1).f2, (⟨(rd_T69 y424 x5_1).f3.f0, (rd_T69 y424 x5_1).f3.f1, bt9426.2⟩ : S47), (rd_T69 y424 x5_1).f4⟩ : S69)) : Option (List (S69))).bind fun y9426 => ((laws_markText.f k1 bt9426.1).bind fun t427 => (laws_markEventS.l0 k1 (y9426.set (x5_1 : Int).toNat (⟨(rd_T69 y9426 x5_1).f0, (rd_T69 y9426 x5_1).f1, (rd_T69 y9426 x5_1).f2, (⟨(rd_T69 y9426 x5_1).f3.f0, (rd_T69 y9426 x5_1).f3.f1, (rd_T69 y9426 x5_1).f3.f2⟩ : S47), t427⟩ : S69)) (wrap64 (bt9426.1 + 1)) (wrap64 (x5_1 + 1))))))))) = some (r1, r2) := rp_ H hy421
 have Ny421 := Aside0.mk hy421
 clear hy421
 obtain ⟨y422, hy422⟩ : ∃ y_ : List (S69), y_ = (y421.set (x5_1 : Int).toNat (⟨(rd_T69 y421 x5_1).f0, (rd_T69 y421 x5_1).f1, wrap64 ((wrap64 (x1_1 + 1)) + 1), (⟨(rd_T69 y421 x5_1).f3.f0, (rd_T69 y421 x5_1).f3.f1, (rd_T69 y421 x5_1).f3.f2⟩ : S47), (rd_T69 y421 x5_1).f4⟩ : S69)) := ⟨_, rfl⟩
 replace H : ((some (y422.set (x5_1 : Int).toNat (⟨(rd_T69 y422 x5_1).f0, (rd_T69 y422 x5_1).f1, (rd_T69 y422 x5_1).f2, (⟨wrap64 ((wrap64 ((wrap64 (x1_1 + 1)) + 1)) + 1), (rd_T69 y422 x5_1).f3.f1, (rd_T69 y422 x5_1).f3.f2⟩ : S47), (rd_T69 y422 x5_1).f4⟩ : S69) : List (S69))).bind fun y423 => ((some (y423.set (x5_1 : Int).toNat (⟨(rd_T69 y423 x5_1).f0, (rd_T69 y423 x5_1).f1, (rd_T69 y423 x5_1).f2, (⟨(rd_T69 y423 x5_1).f3.f0, wrap64 ((wrap64 ((wrap64 ((wrap64 (x1_1 + 1)) + 1)) + 1)) + 1), (rd_T69 y423 x5_1).f3.f2⟩ : S47), (rd_T69 y423 x5_1).f4⟩ : S69) : List (S69))).bind fun y424 => ((laws_markWideS.f k1 ((rd_T69 y424 x5_1).f3.f2) (wrap64 ((wrap64 ((wrap64 ((wrap64 ((wrap64 (x1_1 + 1)) + 1)) + 1)) + 1)) + 1))).bind fun bt9426 => ((some (y424.set (x5_1 : Int).toNat (⟨(rd_T69 y424 x5_1).f0, (rd_T69 y424 x5_1).f1, (rd_T69 y424 x5_1).f2, (⟨(rd_T69 y424 x5_1).f3.f0, (rd_T69 y424 x5_1).f3.f1, bt9426.2⟩ : S47), (rd_T69 y424 x5_1).f4⟩ : S69)) : Option (List (S69))).bind fun y9426 => ((laws_markText.f k1 bt9426.1).bind fun t427 => (laws_markEventS.l0 k1 (y9426.set (x5_1 : Int).toNat (⟨(rd_T69 y9426 x5_1).f0, (rd_T69 y9426 x5_1).f1, (rd_T69 y9426 x5_1).f2, (⟨(rd_T69 y9426 x5_1).f3.f0, (rd_T69 y9426 x5_1).f3.f1, (rd_T69 y9426 x5_1).f3.f2⟩ : S47), t427⟩ : S69)) (wrap64 (bt9426.1 + 1)) (wrap64 (x5_1 + 1)))))))) = some (r1, r2) := rp_ H hy422
 have Ny422 := Aside0.mk hy422
 clear hy422
 obtain ⟨y423, hy423⟩ : ∃ y_ : List (S69), y_ = (y422.set (x5_1 : Int).toNat (⟨(rd_T69 y422 x5_1).f0, (rd_T69 y422 x5_1).f1, (rd_T69 y422 x5_1).f2, (⟨wrap64 ((wrap64 ((wrap64 (x1_1 + 1)) + 1)) + 1), (rd_T69 y422 x5_1).f3.f1, (rd_T69 y422 x5_1).f3.f2⟩ : S47), (rd_T69 y422 x5_1).f4⟩ : S69)) := ⟨_, rfl⟩
 replace H : ((some (y423.set (x5_1 : Int).toNat (⟨(rd_T69 y423 x5_1).f0, (rd_T69 y423 x5_1).f1, (rd_T69 y423 x5_1).f2, (⟨(rd_T69 y423 x5_1).f3.f0, wrap64 ((wrap64 ((wrap64 ((wrap64 (x1_1 + 1)) + 1)) + 1)) + 1), (rd_T69 y423 x5_1).f3.f2⟩ : S47), (rd_T69 y423 x5_1).f4⟩ : S69) : List (S69))).bind fun y424 => ((laws_markWideS.f k1 ((rd_T69 y424 x5_1).f3.f2) (wrap64 ((wrap64 ((wrap64 ((wrap64 ((wrap64 (x1_1 + 1)) + 1)) + 1)) + 1)) + 1))).bind fun bt9426 => ((some (y424.set (x5_1 : Int).toNat (⟨(rd_T69 y424 x5_1).f0, (rd_T69 y424 x5_1).f1, (rd_T69 y424 x5_1).f2, (⟨(rd_T69 y424 x5_1).f3.f0, (rd_T69 y424 x5_1).f3.f1, bt9426.2⟩ : S47), (rd_T69 y424 x5_1).f4⟩ : S69)) : Option (List (S69))).bind fun y9426 => ((laws_markText.f k1 bt9426.1).bind fun t427 => (laws_markEventS.l0 k1 (y9426.set (x5_1 : Int).toNat (⟨(rd_T69 y9426 x5_1).f0, (rd_T69 y9426 x5_1).f1, (rd_T69 y9426 x5_1).f2, (⟨(rd_T69 y9426 x5_1).f3.f0, (rd_T69 y9426 x5_1).f3.f1, (rd_T69 y9426 x5_1).f3.f2⟩ : S47), t427⟩ : S69)) (wrap64 (bt9426.1 + 1)) (wrap64 (x5_1 + 1))))))) = some (r1, r2) := rp_ H hy423
 have Ny423 := Aside0.mk hy423
 clear hy423
 obtain ⟨y424, hy424⟩ : ∃ y_ : List (S69), y_ = (y423.set (x5_1 : Int).toNat (⟨(rd_T69 y423 x5_1).f0, (rd_T69 y423 x5_1).f1, (rd_T69 y423 x5_1).f2, (⟨(rd_T69 y423 x5_1).f3.f0, wrap64 ((wrap64 ((wrap64 ((wrap64 (x1_1 + 1)) + 1)) + 1)) + 1), (rd_T69 y423 x5_1).f3.f2⟩ : S47), (rd_T69 y423 x5_1).f4⟩ : S69)) := ⟨_, rfl⟩
 replace H : ((laws_markWideS.f k1 ((rd_T69 y424 x5_1).f3.f2) (wrap64 ((wrap64 ((wrap64 ((wrap64 ((wrap64 (x1_1 + 1)) + 1)) + 1)) + 1)) + 1))).bind fun bt9426 => ((some (y424.set (x5_1 : Int).toNat (⟨(rd_T69 y424 x5_1).f0, (rd_T69 y424 x5_1).f1, (rd_T69 y424 x5_1).f2, (⟨(rd_T69 y424 x5_1).f3.f0, (rd_T69 y424 x5_1).f3.f1, bt9426.2⟩ : S47), (rd_T69 y424 x5_1).f4⟩ : S69)) : Option (List (S69))).bind fun y9426 => ((laws_markText.f k1 bt9426.1).bind fun t427 => (laws_markEventS.l0 k1 (y9426.set (x5_1 : Int).toNat (⟨(rd_T69 y9426 x5_1).f0, (rd_T69 y9426 x5_1).f1, (rd_T69 y9426 x5_1).f2, (⟨(rd_T69 y9426 x5_1).f3.f0, (rd_T69 y9426 x5_1).f3.f1, (rd_T69 y9426 x5_1).f3.f2⟩ : S47), t427⟩ : S69)) (wrap64 (bt9426.1 + 1)) (wrap64 (x5_1 + 1)))))) = some (r1, r2) := rp_ H hy424
 have Ny424 := Aside0.mk hy424
 clear hy424
 replace H := bs_ H
 obtain ⟨⟨t426, t9426⟩, A10, H⟩ := H
 try dsimp only at H
 obtain ⟨y9426, hy9426⟩ : ∃ y_ : List (S69), y_ = (y424.set (x5_1 : Int).toNat (⟨(rd_T69 y424 x5_1).f0, (rd_T69 y424 x5_1).f1, (rd_T69 y424 x5_1).f2, (⟨(rd_T69 y424 x5_1).f3.f0, (rd_T69 y424 x5_1).f3.f1, t9426⟩ : S47), (rd_T69 y424 x5_1).f4⟩ : S69)) := ⟨_, rfl⟩
 replace H : ((laws_markText.f k1 t426).bind fun t427 => (laws_markEventS.l0 k1 (y9426.set (x5_1 : Int).toNat (⟨(rd_T69 y9426 x5_1).f0, (rd_T69 y9426 x5_1).f1, (rd_T69 y9426 x5_1).f2, (⟨(rd_T69 y9426 x5_1).f3.f0, (rd_T69 y9426 x5_1).f3.f1, (rd_T69 y9426 x5_1).f3.f2⟩ : S47), t427⟩ : S69)) (wrap64 (t426 + 1)) (wrap64 (x5_1 + 1)))) = some (r1, r2) := by rw [hy9426]; exact (Option.bind_some _ _).symm.trans H
 have Ny9426 := Aside0.mk hy9426
 clear hy9426
 replace H := bs_ H
 obtain ⟨t427, A11, H⟩ := H
 try dsimp only at H
 obtain ⟨y428, hy428⟩ : ∃ y_ : List (S69), y_ = (y9426.set (x5_1 : Int).toNat (⟨(rd_T69 y9426 x5_1).f0, (rd_T69 y9426 x5_1).f1, (rd_T69 y9426 x5_1).f2, (⟨(rd_T69 y9426 x5_1).f3.f0, (rd_T69 y9426 x5_1).f3.f1, (rd_T69 y9426 x5_1).f3.f2⟩ : S47), t427⟩ : S69)) := ⟨_, rfl⟩
 replace H : (laws_markEventS.l0 k1 y428 (wrap64 (t426 + 1)) (wrap64 (x5_1 + 1))) = some (r1, r2) := rp_ H hy428
 have Ny428 := Aside0.mk hy428
 clear hy428
 have H' := Aside0.mk H
 clear H
 obtain ⟨Ao13, co13, eo13⟩ := Kd.S_slice HO_0.out
 subst eo13
 have p5 : 0 ≤ (x5_1 : Int) := of_decide_eq_true as_
 have q5 : (x5_1 : Int) < ((x0_1.length : Int) : Int) := of_decide_eq_true as_
 obtain ⟨go5, co5, eo5, gb5, gl5, cl5, HG5⟩ := Kd.S_form HO_0.out (by omega)
 (first | cases eo5 | (injection eo5 with ea_ en_ ec_; (first | subst ea_ | (injection ea_ with ea_; subst ea_)); subst ec_; clear en_))
 have GB5 := Aside0.mk gb5
 have GG5 := Aside0.mk HG5
 clear gb5 gl5 HG5
 have HMgo5 := Aside0.mk (show (P0_ go5 ∨ w.heap.size ≤ go5) from ((Kd.S_R HO_0.out).1 _ rfl))
 obtain ⟨_, ce5, hcl5, hM5, hcc5, hfr5, _, _⟩ := Kd.S_elem HO_0.out z69 (x5_1 : Int) p5 q5
 obtain ⟨ve5_5, rfl, ge5_5⟩ := k69_openM hM5
 have hx5_0 : wr.cell? ⟨go5, (x5_1 : Int).toNat * 7, none⟩ = some (.int .i64 ((rd_T69 x0_1 x5_1).f0)) := hcc5 0 _ rfl
 have hx5_1 : wr.cell? ⟨go5, (x5_1 : Int).toNat * 7 + 1, none⟩ = some (.int .i64 ((rd_T69 x0_1 x5_1).f1)) := hcc5 1 _ rfl
 have hx5_2 : wr.cell? ⟨go5, (x5_1 : Int).toNat * 7 + 2, none⟩ = some (.int .i64 ((rd_T69 x0_1 x5_1).f2)) := hcc5 2 _ rfl
 have hx5_3 : wr.cell? ⟨go5, (x5_1 : Int).toNat * 7 + 3, none⟩ = some (.int .i64 ((rd_T69 x0_1 x5_1).f3.f0)) := hcc5 3 _ rfl
 have hx5_4 : wr.cell? ⟨go5, (x5_1 : Int).toNat * 7 + 4, none⟩ = some (.int .i64 ((rd_T69 x0_1 x5_1).f3.f1)) := hcc5 4 _ rfl
 have hx5_5 : wr.cell? ⟨go5, (x5_1 : Int).toNat * 7 + 5, none⟩ = some (ve5_5) := hcc5 5 _ rfl
 have hx5_6 : wr.cell? ⟨go5, (x5_1 : Int).toNat * 7 + 6, none⟩ = some (.string ((rd_T69 x0_1 x5_1).f4)) := hcc5 6 _ rfl
 have hf5_0 : wr.frozen? ⟨go5, (x5_1 : Int).toNat * 7, none⟩ = false := hfr5 0
 have hf5_1 : wr.frozen? ⟨go5, (x5_1 : Int).toNat * 7 + 1, none⟩ = false := hfr5 1
 have hf5_2 : wr.frozen? ⟨go5, (x5_1 : Int).toNat * 7 + 2, none⟩ = false := hfr5 2
 have hf5_3 : wr.frozen? ⟨go5, (x5_1 : Int).toNat * 7 + 3, none⟩ = false := hfr5 3
 have hf5_4 : wr.frozen? ⟨go5, (x5_1 : Int).toNat * 7 + 4, none⟩ = false := hfr5 4
 have hf5_5 : wr.frozen? ⟨go5, (x5_1 : Int).toNat * 7 + 5, none⟩ = false := hfr5 5
 have hf5_6 : wr.frozen? ⟨go5, (x5_1 : Int).toNat * 7 + 6, none⟩ = false := hfr5 6
 clear hcl5 hcc5 hfr5 hM5
 replace p5 := eq_true p5
 replace q5 := eq_true q5
 have HX14 := Aside0.mk (show Kd.S k69 69 wr w0.heap.size (fun k_ => ((fun k_ => (P0_ k_ ∨ w.heap.size ≤ k_))) k_ ∧ ¬ ((fun _ => False)) k_) (.slice (some ⟨go5, 0, none⟩) x0_1.length co13) x0_1 from (by (with_reducible repeat (first | apply Kd.S_alloc | apply Kd.S_drewN | apply Kd.S_drew)); exact Kd.S_mono HO_0.out (fun k_ hk => ⟨hk, fun e_ => e_⟩)))
 obtain ⟨oki14, ce14, hcl14, hM14, hcc14, hfr14, hoki14, hH14⟩ := Kd.S_elem HX14.out z69 (x5_1 : Int) (of_decide_eq_true as_) (by have h_ : (x5_1 : Int) < ((x0_1.length : Int) : Int) := of_decide_eq_true as_; first | exact h_ | (have e_ := (Kd.S_reads' HO_0.out).1; omega) | simpa using h_)
 obtain ⟨ve14_5, rfl, ge14_5⟩ := k69_openM hM14
 have HP14 := Kd.S_seg hH14 (of_decide_eq_true as_) (by have h_ : (x5_1 : Int) < ((x0_1.length : Int) : Int) := of_decide_eq_true as_; first | exact h_ | (have e_ := (Kd.S_reads' HO_0.out).1; omega) | simpa using h_) (seg := [.int .i64 x1_1]) (j := 0) (show 1 ≤ 7 from by decide) (x' := (⟨x1_1, (rd_T69 x0_1 x5_1).f1, (rd_T69 x0_1 x5_1).f2, (⟨(rd_T69 x0_1 x5_1).f3.f0, (rd_T69 x0_1 x5_1).f3.f1, (rd_T69 x0_1 x5_1).f3.f2⟩ : S47), (rd_T69 x0_1 x5_1).f4⟩ : S69)) (k69_mkM _ _ _ (⟨x1_1, (rd_T69 x0_1 x5_1).f1, (rd_T69 x0_1 x5_1).f2, (⟨(rd_T69 x0_1 x5_1).f3.f0, (rd_T69 x0_1 x5_1).f3.f1, (rd_T69 x0_1 x5_1).f3.f2⟩ : S47), (rd_T69 x0_1 x5_1).f4⟩ : S69) (Kd.R_mono ge14_5 (fun _ h_ => Or.inl h_))) (fun _ hk => hk) (fun k_ hk_ => hk_.elim)
 have hx14_0 := hcc14 0 _ rfl
 (try simp only [show (k69).sz = 7 from rfl, Nat.mul_one, Nat.add_zero] at hx14_0)
 have hf14_0 := hfr14 0
 (try simp only [show (k69).sz = 7 from rfl, Nat.mul_one, Nat.add_zero] at hf14_0)
 clear hcl14 hcc14 hfr14 hM14 hoki14 hH14
 go_wp2_with (first | ((with_reducible refine gate_store (t := 3) (p := 16) rfl ?_); refine store_event (t := 3) (p := 16) (v := ?vo_w15) (w1 := (wr.setCell ⟨go5, (x5_1 : Int).toNat * 7, none⟩ (.int .i64 x1_1))) ?hg ?ho ?hn ?hr ?_; (case ho => rfl); (case hg => rfl); (case hn => rfl); (case hr => first | (go_simp; done) | (go_simp; rfl)); intro w15 hw; have hg : wr.grownBy w15 (some go5) := (by rw [hw]; exact HP14.2); have hp_ : Kd.S k69 69 w15 w0.heap.size (fun k_ => (P0_ k_ ∨ w.heap.size ≤ k_)) (.slice (some ⟨go5, 0, none⟩) x0_1.length co13) y420 := (by rw [hw, Ny420.out]; exact HP14.1); clear HP14; replace HB := Aside0.mk ((by rw [hw]; exact below_set (HB.out) GB5.out : Below w0.heap.size w0 w15)); replace HK := Aside0.mk (Kept.of_grown (S := (fun k_ => P0_ k_)) hg (by repeat (first | (with_reducible first | exact HK.out | apply Kept.alloc | apply Kept.drewN | apply Kept.drew) | exact HK.out)) (fun k_ e_ => ((Kd.S_R HO_0.out).1 k_ e_))); replace HO_0 := Aside0.mk (hp_); clear hg hw hp_; have p6 : 0 ≤ (x5_1 : Int) := of_decide_eq_true as_; have q6 : (x5_1 : Int) < ((x0_1.length : Int) : Int) := of_decide_eq_true as_; obtain ⟨_, ce6, hcl6, hM6, hcc6, hfr6, _, _⟩ := Kd.S_elem HO_0.out z69 (x5_1 : Int) p6 q6; obtain ⟨ve6_5, rfl, ge6_5⟩ := k69_openM hM6; have hx6_0 : w15.cell? ⟨go5, (x5_1 : Int).toNat * 7, none⟩ = some (.int .i64 ((rd_T69 y420 x5_1).f0)) := hcc6 0 _ rfl; have hx6_1 : w15.cell? ⟨go5, (x5_1 : Int).toNat * 7 + 1, none⟩ = some (.int .i64 ((rd_T69 y420 x5_1).f1)) := hcc6 1 _ rfl; have hx6_2 : w15.cell? ⟨go5, (x5_1 : Int).toNat * 7 + 2, none⟩ = some (.int .i64 ((rd_T69 y420 x5_1).f2)) := hcc6 2 _ rfl; have hx6_3 : w15.cell? ⟨go5, (x5_1 : Int).toNat * 7 + 3, none⟩ = some (.int .i64 ((rd_T69 y420 x5_1).f3.f0)) := hcc6 3 _ rfl; have hx6_4 : w15.cell? ⟨go5, (x5_1 : Int).toNat * 7 + 4, none⟩ = some (.int .i64 ((rd_T69 y420 x5_1).f3.f1)) := hcc6 4 _ rfl; have hx6_5 : w15.cell? ⟨go5, (x5_1 : Int).toNat * 7 + 5, none⟩ = some (ve6_5) := hcc6 5 _ rfl; have hx6_6 : w15.cell? ⟨go5, (x5_1 : Int).toNat * 7 + 6, none⟩ = some (.string ((rd_T69 y420 x5_1).f4)) := hcc6 6 _ rfl; have hf6_0 : w15.frozen? ⟨go5, (x5_1 : Int).toNat * 7, none⟩ = false := hfr6 0; have hf6_1 : w15.frozen? ⟨go5, (x5_1 : Int).toNat * 7 + 1, none⟩ = false := hfr6 1; have hf6_2 : w15.frozen? ⟨go5, (x5_1 : Int).toNat * 7 + 2, none⟩ = false := hfr6 2; have hf6_3 : w15.frozen? ⟨go5, (x5_1 : Int).toNat * 7 + 3, none⟩ = false := hfr6 3; have hf6_4 : w15.frozen? ⟨go5, (x5_1 : Int).toNat * 7 + 4, none⟩ = false := hfr6 4; have hf6_5 : w15.frozen? ⟨go5, (x5_1 : Int).toNat * 7 + 5, none⟩ = false := hfr6 5; have hf6_6 : w15.frozen? ⟨go5, (x5_1 : Int).toNat * 7 + 6, none⟩ = false := hfr6 6; clear hcl6 hcc6 hfr6 hM6; replace p6 := eq_true p6; replace q6 := eq_true q6; have HX16 := Aside0.mk (show Kd.S k69 69 w15 w0.heap.size (fun k_ => ((fun k_ => (P0_ k_ ∨ w.heap.size ≤ k_))) k_ ∧ ¬ ((fun _ => False)) k_) (.slice (some ⟨go5, 0, none⟩) x0_1.length co13) y420 from (by (with_reducible repeat (first | apply Kd.S_alloc | apply Kd.S_drewN | apply Kd.S_drew)); exact Kd.S_mono HO_0.out (fun k_ hk => ⟨hk, fun e_ => e_⟩))); obtain ⟨oki16, ce16, hcl16, hM16, hcc16, hfr16, hoki16, hH16⟩ := Kd.S_elem HX16.out z69 (x5_1 : Int) (of_decide_eq_true as_) (by have h_ : (x5_1 : Int) < ((x0_1.length : Int) : Int) := of_decide_eq_true as_; first | exact h_ | (have e_ := (Kd.S_reads' HO_0.out).1; omega) | simpa using h_); obtain ⟨ve16_5, rfl, ge16_5⟩ := k69_openM hM16; have HP16 := Kd.S_seg hH16 (of_decide_eq_true as_) (by have h_ : (x5_1 : Int) < ((x0_1.length : Int) : Int) := of_decide_eq_true as_; first | exact h_ | (have e_ := (Kd.S_reads' HO_0.out).1; omega) | simpa using h_) (seg := [.int .i64 (wrap64 (x1_1 + 1))]) (j := 1) (show 2 ≤ 7 from by decide) (x' := (⟨(rd_T69 y420 x5_1).f0, wrap64 (x1_1 + 1), (rd_T69 y420 x5_1).f2, (⟨(rd_T69 y420 x5_1).f3.f0, (rd_T69 y420 x5_1).f3.f1, (rd_T69 y420 x5_1).f3.f2⟩ : S47), (rd_T69 y420 x5_1).f4⟩ : S69)) (k69_mkM _ _ _ (⟨(rd_T69 y420 x5_1).f0, wrap64 (x1_1 + 1), (rd_T69 y420 x5_1).f2, (⟨(rd_T69 y420 x5_1).f3.f0, (rd_T69 y420 x5_1).f3.f1, (rd_T69 y420 x5_1).f3.f2⟩ : S47), (rd_T69 y420 x5_1).f4⟩ : S69) (Kd.R_mono ge16_5 (fun _ h_ => Or.inl h_))) (fun _ hk => hk) (fun k_ hk_ => hk_.elim); have hx16_1 := hcc16 1 _ rfl; (try simp only [show (k69).sz = 7 from rfl, Nat.mul_one, Nat.add_zero] at hx16_1); have hf16_1 := hfr16 1; (try simp only [show (k69).sz = 7 from rfl, Nat.mul_one, Nat.add_zero] at hf16_1); clear hcl16 hcc16 hfr16 hM16 hoki16 hH16) | ((with_reducible refine gate_store (t := 3) (p := 23) rfl ?_); refine store_event (t := 3) (p := 23) (v := ?vo_w17) (w1 := (w15.setCell ⟨go5, (x5_1 : Int).toNat * 7 + 1, none⟩ (.int .i64 (wrap64 (x1_1 + 1))))) ?hg ?ho ?hn ?hr ?_; (case ho => rfl); (case hg => rfl); (case hn => rfl); (case hr => first | (go_simp; done) | (go_simp; rfl)); intro w17 hw; have hg : w15.grownBy w17 (some go5) := (by rw [hw]; exact HP16.2); have hp_ : Kd.S k69 69 w17 w0.heap.size (fun k_ => (P0_ k_ ∨ w.heap.size ≤ k_)) (.slice (some ⟨go5, 0, none⟩) x0_1.length co13) y421 := (by rw [hw, Ny421.out]; exact HP16.1); clear HP16; replace HB := Aside0.mk ((by rw [hw]; exact below_set (HB.out) GB5.out : Below w0.heap.size w0 w17)); replace HK := Aside0.mk (Kept.of_grown (S := (fun k_ => P0_ k_)) hg (by repeat (first | (with_reducible first | exact HK.out | apply Kept.alloc | apply Kept.drewN | apply Kept.drew) | exact HK.out)) (fun k_ e_ => ((Kd.S_R HO_0.out).1 k_ e_))); replace HO_0 := Aside0.mk (hp_); clear hg hw hp_; have p7 : 0 ≤ (x5_1 : Int) := of_decide_eq_true as_; have q7 : (x5_1 : Int) < ((x0_1.length : Int) : Int) := of_decide_eq_true as_; obtain ⟨_, ce7, hcl7, hM7, hcc7, hfr7, _, _⟩ := Kd.S_elem HO_0.out z69 (x5_1 : Int) p7 q7; obtain ⟨ve7_5, rfl, ge7_5⟩ := k69_openM hM7; have hx7_0 : w17.cell? ⟨go5, (x5_1 : Int).toNat * 7, none⟩ = some (.int .i64 ((rd_T69 y421 x5_1).f0)) := hcc7 0 _ rfl; have hx7_1 : w17.cell? ⟨go5, (x5_1 : Int).toNat * 7 + 1, none⟩ = some (.int .i64 ((rd_T69 y421 x5_1).f1)) := hcc7 1 _ rfl; have hx7_2 : w17.cell? ⟨go5, (x5_1 : Int).toNat * 7 + 2, none⟩ = some (.int .i64 ((rd_T69 y421 x5_1).f2)) := hcc7 2 _ rfl; have hx7_3 : w17.cell? ⟨go5, (x5_1 : Int).toNat * 7 + 3, none⟩ = some (.int .i64 ((rd_T69 y421 x5_1).f3.f0)) := hcc7 3 _ rfl; have hx7_4 : w17.cell? ⟨go5, (x5_1 : Int).toNat * 7 + 4, none⟩ = some (.int .i64 ((rd_T69 y421 x5_1).f3.f1)) := hcc7 4 _ rfl; have hx7_5 : w17.cell? ⟨go5, (x5_1 : Int).toNat * 7 + 5, none⟩ = some (ve7_5) := hcc7 5 _ rfl; have hx7_6 : w17.cell? ⟨go5, (x5_1 : Int).toNat * 7 + 6, none⟩ = some (.string ((rd_T69 y421 x5_1).f4)) := hcc7 6 _ rfl; have hf7_0 : w17.frozen? ⟨go5, (x5_1 : Int).toNat * 7, none⟩ = false := hfr7 0; have hf7_1 : w17.frozen? ⟨go5, (x5_1 : Int).toNat * 7 + 1, none⟩ = false := hfr7 1; have hf7_2 : w17.frozen? ⟨go5, (x5_1 : Int).toNat * 7 + 2, none⟩ = false := hfr7 2; have hf7_3 : w17.frozen? ⟨go5, (x5_1 : Int).toNat * 7 + 3, none⟩ = false := hfr7 3; have hf7_4 : w17.frozen? ⟨go5, (x5_1 : Int).toNat * 7 + 4, none⟩ = false := hfr7 4; have hf7_5 : w17.frozen? ⟨go5, (x5_1 : Int).toNat * 7 + 5, none⟩ = false := hfr7 5; have hf7_6 : w17.frozen? ⟨go5, (x5_1 : Int).toNat * 7 + 6, none⟩ = false := hfr7 6; clear hcl7 hcc7 hfr7 hM7; replace p7 := eq_true p7; replace q7 := eq_true q7; have HX18 := Aside0.mk (show Kd.S k69 69 w17 w0.heap.size (fun k_ => ((fun k_ => (P0_ k_ ∨ w.heap.size ≤ k_))) k_ ∧ ¬ ((fun _ => False)) k_) (.slice (some ⟨go5, 0, none⟩) x0_1.length co13) y421 from (by (with_reducible repeat (first | apply Kd.S_alloc | apply Kd.S_drewN | apply Kd.S_drew)); exact Kd.S_mono HO_0.out (fun k_ hk => ⟨hk, fun e_ => e_⟩))); obtain ⟨oki18, ce18, hcl18, hM18, hcc18, hfr18, hoki18, hH18⟩ := Kd.S_elem HX18.out z69 (x5_1 : Int) (of_decide_eq_true as_) (by have h_ : (x5_1 : Int) < ((x0_1.length : Int) : Int) := of_decide_eq_true as_; first | exact h_ | (have e_ := (Kd.S_reads' HO_0.out).1; omega) | simpa using h_); obtain ⟨ve18_5, rfl, ge18_5⟩ := k69_openM hM18; have HP18 := Kd.S_seg hH18 (of_decide_eq_true as_) (by have h_ : (x5_1 : Int) < ((x0_1.length : Int) : Int) := of_decide_eq_true as_; first | exact h_ | (have e_ := (Kd.S_reads' HO_0.out).1; omega) | simpa using h_) (seg := [.int .i64 (wrap64 ((wrap64 (x1_1 + 1)) + 1))]) (j := 2) (show 3 ≤ 7 from by decide) (x' := (⟨(rd_T69 y421 x5_1).f0, (rd_T69 y421 x5_1).f1, wrap64 ((wrap64 (x1_1 + 1)) + 1), (⟨(rd_T69 y421 x5_1).f3.f0, (rd_T69 y421 x5_1).f3.f1, (rd_T69 y421 x5_1).f3.f2⟩ : S47), (rd_T69 y421 x5_1).f4⟩ : S69)) (k69_mkM _ _ _ (⟨(rd_T69 y421 x5_1).f0, (rd_T69 y421 x5_1).f1, wrap64 ((wrap64 (x1_1 + 1)) + 1), (⟨(rd_T69 y421 x5_1).f3.f0, (rd_T69 y421 x5_1).f3.f1, (rd_T69 y421 x5_1).f3.f2⟩ : S47), (rd_T69 y421 x5_1).f4⟩ : S69) (Kd.R_mono ge18_5 (fun _ h_ => Or.inl h_))) (fun _ hk => hk) (fun k_ hk_ => hk_.elim); have hx18_2 := hcc18 2 _ rfl; (try simp only [show (k69).sz = 7 from rfl, Nat.mul_one, Nat.add_zero] at hx18_2); have hf18_2 := hfr18 2; (try simp only [show (k69).sz = 7 from rfl, Nat.mul_one, Nat.add_zero] at hf18_2); clear hcl18 hcc18 hfr18 hM18 hoki18 hH18) | ((with_reducible refine gate_store (t := 3) (p := 30) rfl ?_); refine store_event (t := 3) (p := 30) (v := ?vo_w19) (w1 := (w17.setCell ⟨go5, (x5_1 : Int).toNat * 7 + 2, none⟩ (.int .i64 (wrap64 ((wrap64 (x1_1 + 1)) + 1))))) ?hg ?ho ?hn ?hr ?_; (case ho => rfl); (case hg => rfl); (case hn => rfl); (case hr => first | (go_simp; done) | (go_simp; rfl)); intro w19 hw; have hg : w17.grownBy w19 (some go5) := (by rw [hw]; exact HP18.2); have hp_ : Kd.S k69 69 w19 w0.heap.size (fun k_ => (P0_ k_ ∨ w.heap.size ≤ k_)) (.slice (some ⟨go5, 0, none⟩) x0_1.length co13) y422 := (by rw [hw, Ny422.out]; exact HP18.1); clear HP18; replace HB := Aside0.mk ((by rw [hw]; exact below_set (HB.out) GB5.out : Below w0.heap.size w0 w19)); replace HK := Aside0.mk (Kept.of_grown (S := (fun k_ => P0_ k_)) hg (by repeat (first | (with_reducible first | exact HK.out | apply Kept.alloc | apply Kept.drewN | apply Kept.drew) | exact HK.out)) (fun k_ e_ => ((Kd.S_R HO_0.out).1 k_ e_))); replace HO_0 := Aside0.mk (hp_); clear hg hw hp_; have p8 : 0 ≤ (x5_1 : Int) := of_decide_eq_true as_; have q8 : (x5_1 : Int) < ((x0_1.length : Int) : Int) := of_decide_eq_true as_; obtain ⟨_, ce8, hcl8, hM8, hcc8, hfr8, _, _⟩ := Kd.S_elem HO_0.out z69 (x5_1 : Int) p8 q8; obtain ⟨ve8_5, rfl, ge8_5⟩ := k69_openM hM8; have hx8_0 : w19.cell? ⟨go5, (x5_1 : Int).toNat * 7, none⟩ = some (.int .i64 ((rd_T69 y422 x5_1).f0)) := hcc8 0 _ rfl; have hx8_1 : w19.cell? ⟨go5, (x5_1 : Int).toNat * 7 + 1, none⟩ = some (.int .i64 ((rd_T69 y422 x5_1).f1)) := hcc8 1 _ rfl; have hx8_2 : w19.cell? ⟨go5, (x5_1 : Int).toNat * 7 + 2, none⟩ = some (.int .i64 ((rd_T69 y422 x5_1).f2)) := hcc8 2 _ rfl; have hx8_3 : w19.cell? ⟨go5, (x5_1 : Int).toNat * 7 + 3, none⟩ = some (.int .i64 ((rd_T69 y422 x5_1).f3.f0)) := hcc8 3 _ rfl; have hx8_4 : w19.cell? ⟨go5, (x5_1 : Int).toNat * 7 + 4, none⟩ = some (.int .i64 ((rd_T69 y422 x5_1).f3.f1)) := hcc8 4 _ rfl; have hx8_5 : w19.cell? ⟨go5, (x5_1 : Int).toNat * 7 + 5, none⟩ = some (ve8_5) := hcc8 5 _ rfl; have hx8_6 : w19.cell? ⟨go5, (x5_1 : Int).toNat * 7 + 6, none⟩ = some (.string ((rd_T69 y422 x5_1).f4)) := hcc8 6 _ rfl; have hf8_0 : w19.frozen? ⟨go5, (x5_1 : Int).toNat * 7, none⟩ = false := hfr8 0; have hf8_1 : w19.frozen? ⟨go5, (x5_1 : Int).toNat * 7 + 1, none⟩ = false := hfr8 1; have hf8_2 : w19.frozen? ⟨go5, (x5_1 : Int).toNat * 7 + 2, none⟩ = false := hfr8 2; have hf8_3 : w19.frozen? ⟨go5, (x5_1 : Int).toNat * 7 + 3, none⟩ = false := hfr8 3; have hf8_4 : w19.frozen? ⟨go5, (x5_1 : Int).toNat * 7 + 4, none⟩ = false := hfr8 4; have hf8_5 : w19.frozen? ⟨go5, (x5_1 : Int).toNat * 7 + 5, none⟩ = false := hfr8 5; have hf8_6 : w19.frozen? ⟨go5, (x5_1 : Int).toNat * 7 + 6, none⟩ = false := hfr8 6; clear hcl8 hcc8 hfr8 hM8; replace p8 := eq_true p8; replace q8 := eq_true q8; have HX20 := Aside0.mk (show Kd.S k69 69 w19 w0.heap.size (fun k_ => ((fun k_ => (P0_ k_ ∨ w.heap.size ≤ k_))) k_ ∧ ¬ ((fun _ => False)) k_) (.slice (some ⟨go5, 0, none⟩) x0_1.length co13) y422 from (by (with_reducible repeat (first | apply Kd.S_alloc | apply Kd.S_drewN | apply Kd.S_drew)); exact Kd.S_mono HO_0.out (fun k_ hk => ⟨hk, fun e_ => e_⟩))); obtain ⟨oki20, ce20, hcl20, hM20, hcc20, hfr20, hoki20, hH20⟩ := Kd.S_elem HX20.out z69 (x5_1 : Int) (of_decide_eq_true as_) (by have h_ : (x5_1 : Int) < ((x0_1.length : Int) : Int) := of_decide_eq_true as_; first | exact h_ | (have e_ := (Kd.S_reads' HO_0.out).1; omega) | simpa using h_); obtain ⟨ve20_5, rfl, ge20_5⟩ := k69_openM hM20; have HP20 := Kd.S_seg hH20 (of_decide_eq_true as_) (by have h_ : (x5_1 : Int) < ((x0_1.length : Int) : Int) := of_decide_eq_true as_; first | exact h_ | (have e_ := (Kd.S_reads' HO_0.out).1; omega) | simpa using h_) (seg := [.int .i64 (wrap64 ((wrap64 ((wrap64 (x1_1 + 1)) + 1)) + 1))]) (j := 3) (show 4 ≤ 7 from by decide) (x' := (⟨(rd_T69 y422 x5_1).f0, (rd_T69 y422 x5_1).f1, (rd_T69 y422 x5_1).f2, (⟨wrap64 ((wrap64 ((wrap64 (x1_1 + 1)) + 1)) + 1), (rd_T69 y422 x5_1).f3.f1, (rd_T69 y422 x5_1).f3.f2⟩ : S47), (rd_T69 y422 x5_1).f4⟩ : S69)) (k69_mkM _ _ _ (⟨(rd_T69 y422 x5_1).f0, (rd_T69 y422 x5_1).f1, (rd_T69 y422 x5_1).f2, (⟨wrap64 ((wrap64 ((wrap64 (x1_1 + 1)) + 1)) + 1), (rd_T69 y422 x5_1).f3.f1, (rd_T69 y422 x5_1).f3.f2⟩ : S47), (rd_T69 y422 x5_1).f4⟩ : S69) (Kd.R_mono ge20_5 (fun _ h_ => Or.inl h_))) (fun _ hk => hk) (fun k_ hk_ => hk_.elim); have hx20_3 := hcc20 3 _ rfl; (try simp only [show (k69).sz = 7 from rfl, Nat.mul_one, Nat.add_zero] at hx20_3); have hf20_3 := hfr20 3; (try simp only [show (k69).sz = 7 from rfl, Nat.mul_one, Nat.add_zero] at hf20_3); clear hcl20 hcc20 hfr20 hM20 hoki20 hH20) | ((with_reducible refine gate_store (t := 3) (p := 38) rfl ?_); refine store_event (t := 3) (p := 38) (v := ?vo_w21) (w1 := (w19.setCell ⟨go5, (x5_1 : Int).toNat * 7 + 3, none⟩ (.int .i64 (wrap64 ((wrap64 ((wrap64 (x1_1 + 1)) + 1)) + 1))))) ?hg ?ho ?hn ?hr ?_; (case ho => rfl); (case hg => rfl); (case hn => rfl); (case hr => first | (go_simp; done) | (go_simp; rfl)); intro w21 hw; have hg : w19.grownBy w21 (some go5) := (by rw [hw]; exact HP20.2); have hp_ : Kd.S k69 69 w21 w0.heap.size (fun k_ => (P0_ k_ ∨ w.heap.size ≤ k_)) (.slice (some ⟨go5, 0, none⟩) x0_1.length co13) y423 := (by rw [hw, Ny423.out]; exact HP20.1); clear HP20; replace HB := Aside0.mk ((by rw [hw]; exact below_set (HB.out) GB5.out : Below w0.heap.size w0 w21)); replace HK := Aside0.mk (Kept.of_grown (S := (fun k_ => P0_ k_)) hg (by repeat (first | (with_reducible first | exact HK.out | apply Kept.alloc | apply Kept.drewN | apply Kept.drew) | exact HK.out)) (fun k_ e_ => ((Kd.S_R HO_0.out).1 k_ e_))); replace HO_0 := Aside0.mk (hp_); clear hg hw hp_; have p9 : 0 ≤ (x5_1 : Int) := of_decide_eq_true as_; have q9 : (x5_1 : Int) < ((x0_1.length : Int) : Int) := of_decide_eq_true as_; obtain ⟨_, ce9, hcl9, hM9, hcc9, hfr9, _, _⟩ := Kd.S_elem HO_0.out z69 (x5_1 : Int) p9 q9; obtain ⟨ve9_5, rfl, ge9_5⟩ := k69_openM hM9; have hx9_0 : w21.cell? ⟨go5, (x5_1 : Int).toNat * 7, none⟩ = some (.int .i64 ((rd_T69 y423 x5_1).f0)) := hcc9 0 _ rfl; have hx9_1 : w21.cell? ⟨go5, (x5_1 : Int).toNat * 7 + 1, none⟩ = some (.int .i64 ((rd_T69 y423 x5_1).f1)) := hcc9 1 _ rfl; have hx9_2 : w21.cell? ⟨go5, (x5_1 : Int).toNat * 7 + 2, none⟩ = some (.int .i64 ((rd_T69 y423 x5_1).f2)) := hcc9 2 _ rfl; have hx9_3 : w21.cell? ⟨go5, (x5_1 : Int).toNat * 7 + 3, none⟩ = some (.int .i64 ((rd_T69 y423 x5_1).f3.f0)) := hcc9 3 _ rfl; have hx9_4 : w21.cell? ⟨go5, (x5_1 : Int).toNat * 7 + 4, none⟩ = some (.int .i64 ((rd_T69 y423 x5_1).f3.f1)) := hcc9 4 _ rfl; have hx9_5 : w21.cell? ⟨go5, (x5_1 : Int).toNat * 7 + 5, none⟩ = some (ve9_5) := hcc9 5 _ rfl; have hx9_6 : w21.cell? ⟨go5, (x5_1 : Int).toNat * 7 + 6, none⟩ = some (.string ((rd_T69 y423 x5_1).f4)) := hcc9 6 _ rfl; have hf9_0 : w21.frozen? ⟨go5, (x5_1 : Int).toNat * 7, none⟩ = false := hfr9 0; have hf9_1 : w21.frozen? ⟨go5, (x5_1 : Int).toNat * 7 + 1, none⟩ = false := hfr9 1; have hf9_2 : w21.frozen? ⟨go5, (x5_1 : Int).toNat * 7 + 2, none⟩ = false := hfr9 2; have hf9_3 : w21.frozen? ⟨go5, (x5_1 : Int).toNat * 7 + 3, none⟩ = false := hfr9 3; have hf9_4 : w21.frozen? ⟨go5, (x5_1 : Int).toNat * 7 + 4, none⟩ = false := hfr9 4; have hf9_5 : w21.frozen? ⟨go5, (x5_1 : Int).toNat * 7 + 5, none⟩ = false := hfr9 5; have hf9_6 : w21.frozen? ⟨go5, (x5_1 : Int).toNat * 7 + 6, none⟩ = false := hfr9 6; clear hcl9 hcc9 hfr9 hM9; replace p9 := eq_true p9; replace q9 := eq_true q9; have HX22 := Aside0.mk (show Kd.S k69 69 w21 w0.heap.size (fun k_ => ((fun k_ => (P0_ k_ ∨ w.heap.size ≤ k_))) k_ ∧ ¬ ((fun _ => False)) k_) (.slice (some ⟨go5, 0, none⟩) x0_1.length co13) y423 from (by (with_reducible repeat (first | apply Kd.S_alloc | apply Kd.S_drewN | apply Kd.S_drew)); exact Kd.S_mono HO_0.out (fun k_ hk => ⟨hk, fun e_ => e_⟩))); obtain ⟨oki22, ce22, hcl22, hM22, hcc22, hfr22, hoki22, hH22⟩ := Kd.S_elem HX22.out z69 (x5_1 : Int) (of_decide_eq_true as_) (by have h_ : (x5_1 : Int) < ((x0_1.length : Int) : Int) := of_decide_eq_true as_; first | exact h_ | (have e_ := (Kd.S_reads' HO_0.out).1; omega) | simpa using h_); obtain ⟨ve22_5, rfl, ge22_5⟩ := k69_openM hM22; have HP22 := Kd.S_seg hH22 (of_decide_eq_true as_) (by have h_ : (x5_1 : Int) < ((x0_1.length : Int) : Int) := of_decide_eq_true as_; first | exact h_ | (have e_ := (Kd.S_reads' HO_0.out).1; omega) | simpa using h_) (seg := [.int .i64 (wrap64 ((wrap64 ((wrap64 ((wrap64 (x1_1 + 1)) + 1)) + 1)) + 1))]) (j := 4) (show 5 ≤ 7 from by decide) (x' := (⟨(rd_T69 y423 x5_1).f0, (rd_T69 y423 x5_1).f1, (rd_T69 y423 x5_1).f2, (⟨(rd_T69 y423 x5_1).f3.f0, wrap64 ((wrap64 ((wrap64 ((wrap64 (x1_1 + 1)) + 1)) + 1)) + 1), (rd_T69 y423 x5_1).f3.f2⟩ : S47), (rd_T69 y423 x5_1).f4⟩ : S69)) (k69_mkM _ _ _ (⟨(rd_T69 y423 x5_1).f0, (rd_T69 y423 x5_1).f1, (rd_T69 y423 x5_1).f2, (⟨(rd_T69 y423 x5_1).f3.f0, wrap64 ((wrap64 ((wrap64 ((wrap64 (x1_1 + 1)) + 1)) + 1)) + 1), (rd_T69 y423 x5_1).f3.f2⟩ : S47), (rd_T69 y423 x5_1).f4⟩ : S69) (Kd.R_mono ge22_5 (fun _ h_ => Or.inl h_))) (fun _ hk => hk) (fun k_ hk_ => hk_.elim); have hx22_4 := hcc22 4 _ rfl; (try simp only [show (k69).sz = 7 from rfl, Nat.mul_one, Nat.add_zero] at hx22_4); have hf22_4 := hfr22 4; (try simp only [show (k69).sz = 7 from rfl, Nat.mul_one, Nat.add_zero] at hf22_4); clear hcl22 hcc22 hfr22 hM22 hoki22 hH22) | ((with_reducible refine gate_store (t := 3) (p := 46) rfl ?_); refine store_event (t := 3) (p := 46) (v := ?vo_w23) (w1 := (w21.setCell ⟨go5, (x5_1 : Int).toNat * 7 + 4, none⟩ (.int .i64 (wrap64 ((wrap64 ((wrap64 ((wrap64 (x1_1 + 1)) + 1)) + 1)) + 1))))) ?hg ?ho ?hn ?hr ?_; (case ho => rfl); (case hg => rfl); (case hn => rfl); (case hr => first | (go_simp; done) | (go_simp; rfl)); intro w23 hw; have hg : w21.grownBy w23 (some go5) := (by rw [hw]; exact HP22.2); have hp_ : Kd.S k69 69 w23 w0.heap.size (fun k_ => (P0_ k_ ∨ w.heap.size ≤ k_)) (.slice (some ⟨go5, 0, none⟩) x0_1.length co13) y424 := (by rw [hw, Ny424.out]; exact HP22.1); clear HP22; replace HB := Aside0.mk ((by rw [hw]; exact below_set (HB.out) GB5.out : Below w0.heap.size w0 w23)); replace HK := Aside0.mk (Kept.of_grown (S := (fun k_ => P0_ k_)) hg (by repeat (first | (with_reducible first | exact HK.out | apply Kept.alloc | apply Kept.drewN | apply Kept.drew) | exact HK.out)) (fun k_ e_ => ((Kd.S_R HO_0.out).1 k_ e_))); replace HO_0 := Aside0.mk (hp_); clear hg hw hp_; have p425 : 0 ≤ (x5_1 : Int) := of_decide_eq_true as_; have q425 : x5_1 < (y424.length : Int) := (by have h_ : (x5_1 : Int) < ((x0_1.length : Int) : Int) := of_decide_eq_true as_; first | (have e_ := (Kd.S_reads' HO_0.out).1; omega) | simpa only [Ny420.out, Ny421.out, Ny422.out, Ny423.out, Ny424.out, List.length_set] using h_); have ql425 : ((x5_1 : Int) < ((x0_1.length : Int) : Int)) = True := eq_true (of_decide_eq_true as_); obtain ⟨ad425, A425_5, c425_5, e425, hx425_0, hx425_1, hx425_2, hx425_3, hx425_4, hx425_5, hx425_6, hl425_5, hi425_5⟩ := at_T69 (Kd.S_reads' HO_0.out).2.2 x5_1 p425 q425; obtain rfl : (⟨go5, 0, none⟩ : Addr) = ad425 := (by injection e425); obtain ⟨ce425, hce425, hMe425, hcc425⟩ := Kd.S_get HO_0.out z69 x5_1 p425 (by first | exact q425 | exact of_decide_eq_true as_ | (have e_ := (Kd.S_reads' HO_0.out).1; omega)); obtain ⟨ve425_5, rfl, ge425_5⟩ := k69_openM hMe425; have hv425_5 := hcc425 5 _ rfl; rw [add_field _ _ 5 (by omega)] at hv425_5; replace hv425_5 := Option.some.inj (hv425_5.symm.trans hx425_5); rw [hv425_5] at ge425_5; have HL425_5 := Aside0.mk (show Kd.R k98 98 _ _ _ _ ((rd_T69 y424 x5_1).f3.f2) from ge425_5); clear hv425_5 ge425_5; clear hcc425 hce425; (first | simp only [add_plain] at hx425_0 | simp only [add_at] at hx425_0 | simp only [Addr.add, Nat.zero_add] at hx425_0 | skip); (first | simp only [add_plain] at hx425_1 | simp only [add_at] at hx425_1 | simp only [Addr.add, Nat.zero_add] at hx425_1 | skip); (first | simp only [add_plain] at hx425_2 | simp only [add_at] at hx425_2 | simp only [Addr.add, Nat.zero_add] at hx425_2 | skip); (first | simp only [add_plain] at hx425_3 | simp only [add_at] at hx425_3 | simp only [Addr.add, Nat.zero_add] at hx425_3 | skip); (first | simp only [add_plain] at hx425_4 | simp only [add_at] at hx425_4 | simp only [Addr.add, Nat.zero_add] at hx425_4 | skip); (first | simp only [add_plain] at hx425_5 | simp only [add_at] at hx425_5 | simp only [Addr.add, Nat.zero_add] at hx425_5 | skip); (first | simp only [add_plain] at hx425_6 | simp only [add_at] at hx425_6 | simp only [Addr.add, Nat.zero_add] at hx425_6 | skip); have HR425_5 := Aside0.mk hi425_5; have HC425_5 := Aside0.mk hl425_5; clear hi425_5 hl425_5; replace p425 := eq_true p425; replace q425 := eq_true q425) | ((with_reducible refine gate_callee (f := 49) rfl ?_); refine gs_ (some 56) Try.func49 #[.slice A425_5 ((rd_T69 y424 x5_1).f3.f2).length c425_5, .int .i64 (wrap64 ((wrap64 ((wrap64 ((wrap64 ((wrap64 (x1_1 + 1)) + 1)) + 1)) + 1)) + 1))] ?_; obtain ⟨oki_, ce_, hcl_, hM_, hcc_, hoki_, hH_⟩ := Kd.S_lend HO_0.out z69 (x5_1 : Int) (of_decide_eq_true as_) (by have h_ : (x5_1 : Int) < ((x0_1.length : Int) : Int) := of_decide_eq_true as_; exact h_); obtain ⟨ve0_, rfl, ge0_⟩ := k69_openM hM_; have e_ := (hcc_ 5 _ rfl).symm.trans hx425_5; injection e_ with e_; subst e_; (with_reducible refine (laws_markWideS.calls k1 (fun k_ => some k_ = (.slice A425_5 ((rd_T69 y424 x5_1).f3.f2).length c425_5 : Value).ownBlock) (.slice A425_5 ((rd_T69 y424 x5_1).f3.f2).length c425_5 : Value) ((rd_T69 y424 x5_1).f3.f2) (wrap64 ((wrap64 ((wrap64 ((wrap64 ((wrap64 (x1_1 + 1)) + 1)) + 1)) + 1)) + 1)) t426 t9426 w0 _ ?side1 ?side2 A10.out).mono ?_); (case side1 => exact HB.out); (case side2 => exact Kd.R_tight rfl ge0_); rintro e w9426 ⟨rfl, hy0, hb, hkp⟩; refine ⟨_, rfl, ?_⟩; have hH2_ := Kd.H_step hH_ (fun k_ _ hn_ hlt_ => hkp.2 k_ hlt_ (fun e_ => hn_ (ge0_.1 k_ e_.symm))); have hS_ := Kd.H_back hH2_ (x' := (⟨(rd_T69 y424 x5_1).f0, (rd_T69 y424 x5_1).f1, (rd_T69 y424 x5_1).f2, (⟨(rd_T69 y424 x5_1).f3.f0, (rd_T69 y424 x5_1).f3.f1, t9426⟩ : S47), (rd_T69 y424 x5_1).f4⟩ : S69)) (k69_mkM _ _ oki_ (⟨(rd_T69 y424 x5_1).f0, (rd_T69 y424 x5_1).f1, (rd_T69 y424 x5_1).f2, (⟨(rd_T69 y424 x5_1).f3.f0, (rd_T69 y424 x5_1).f3.f1, t9426⟩ : S47), (rd_T69 y424 x5_1).f4⟩ : S69) (Kd.R_reok rfl hy0 (fun k_ e_ => ge0_.1 k_ e_))) (fun _ hk => hk); have n0_ := Aside0.mk (show Kd.S k69 69 w9426 w0.heap.size (fun k_ => (P0_ k_ ∨ w.heap.size ≤ k_)) (.slice (some ⟨go5, 0, none⟩) x0_1.length co13) y9426 from (by rw [Ny9426.out]; exact hS_)); have n1_ := Aside0.mk (Kept.then_ (S := (fun k_ => P0_ k_)) HK.out hkp (fun k_ hs_ => (hoki_ k_ (ge0_.1 k_ hs_.symm)).1)); have n2_ := Aside0.mk hb; clear hS_ hH2_ hH_ hy0 hkp hb ge0_ hoki_ hcc_ hcl_ hM_ HL425_5 HR425_5; clear HO_0; clear HK; clear HB; have HO_0 := n0_; have HK := n1_; have HB := n2_; clear n0_ n1_ n2_) | ((with_reducible refine gate_callee (f := 50) rfl ?_); refine gs_ (some 60) Try.func50 #[.int .i64 t426] ?_; (with_reducible refine (laws_markText.calls k1 t426 t427 _ A11.out).mono ?_); rintro e w24 ⟨rfl, hb⟩; refine ⟨_, rfl, ?_⟩; have n0_ := Aside0.mk (Kd.S_below (by (with_reducible repeat (first | apply Kd.S_alloc | apply Kd.S_drewN | apply Kd.S_drew)); exact HO_0.out) hb); have n3_ := Aside0.mk (Kept.below (S := (fun k_ => P0_ k_)) (by repeat (first | (with_reducible first | exact HK.out | apply Kept.alloc | apply Kept.drewN | apply Kept.drew) | exact HK.out)) hb); have n4_ := Aside0.mk (below_step bl_ hb); clear HO_0; clear HK; clear HB; have HO_0 := n0_; have HK := n3_; have HB := n4_; (try clear n0_); (try clear n1_); (try clear n2_); (try clear n3_); (try clear n4_); (try clear hb); have p12 : 0 ≤ (x5_1 : Int) := of_decide_eq_true as_; have q12 : (x5_1 : Int) < ((x0_1.length : Int) : Int) := of_decide_eq_true as_; obtain ⟨_, ce12, hcl12, hM12, hcc12, hfr12, _, _⟩ := Kd.S_elem HO_0.out z69 (x5_1 : Int) p12 q12; obtain ⟨ve12_5, rfl, ge12_5⟩ := k69_openM hM12; have hx12_0 : w24.cell? ⟨go5, (x5_1 : Int).toNat * 7, none⟩ = some (.int .i64 ((rd_T69 y9426 x5_1).f0)) := hcc12 0 _ rfl; have hx12_1 : w24.cell? ⟨go5, (x5_1 : Int).toNat * 7 + 1, none⟩ = some (.int .i64 ((rd_T69 y9426 x5_1).f1)) := hcc12 1 _ rfl; have hx12_2 : w24.cell? ⟨go5, (x5_1 : Int).toNat * 7 + 2, none⟩ = some (.int .i64 ((rd_T69 y9426 x5_1).f2)) := hcc12 2 _ rfl; have hx12_3 : w24.cell? ⟨go5, (x5_1 : Int).toNat * 7 + 3, none⟩ = some (.int .i64 ((rd_T69 y9426 x5_1).f3.f0)) := hcc12 3 _ rfl; have hx12_4 : w24.cell? ⟨go5, (x5_1 : Int).toNat * 7 + 4, none⟩ = some (.int .i64 ((rd_T69 y9426 x5_1).f3.f1)) := hcc12 4 _ rfl; have hx12_5 : w24.cell? ⟨go5, (x5_1 : Int).toNat * 7 + 5, none⟩ = some (ve12_5) := hcc12 5 _ rfl; have hx12_6 : w24.cell? ⟨go5, (x5_1 : Int).toNat * 7 + 6, none⟩ = some (.string ((rd_T69 y9426 x5_1).f4)) := hcc12 6 _ rfl; have hf12_0 : w24.frozen? ⟨go5, (x5_1 : Int).toNat * 7, none⟩ = false := hfr12 0; have hf12_1 : w24.frozen? ⟨go5, (x5_1 : Int).toNat * 7 + 1, none⟩ = false := hfr12 1; have hf12_2 : w24.frozen? ⟨go5, (x5_1 : Int).toNat * 7 + 2, none⟩ = false := hfr12 2; have hf12_3 : w24.frozen? ⟨go5, (x5_1 : Int).toNat * 7 + 3, none⟩ = false := hfr12 3; have hf12_4 : w24.frozen? ⟨go5, (x5_1 : Int).toNat * 7 + 4, none⟩ = false := hfr12 4; have hf12_5 : w24.frozen? ⟨go5, (x5_1 : Int).toNat * 7 + 5, none⟩ = false := hfr12 5; have hf12_6 : w24.frozen? ⟨go5, (x5_1 : Int).toNat * 7 + 6, none⟩ = false := hfr12 6; clear hcl12 hcc12 hfr12 hM12; replace p12 := eq_true p12; replace q12 := eq_true q12; have HX25 := Aside0.mk (show Kd.S k69 69 w24 w0.heap.size (fun k_ => ((fun k_ => (P0_ k_ ∨ w.heap.size ≤ k_))) k_ ∧ ¬ ((fun _ => False)) k_) (.slice (some ⟨go5, 0, none⟩) x0_1.length co13) y9426 from (by (with_reducible repeat (first | apply Kd.S_alloc | apply Kd.S_drewN | apply Kd.S_drew)); exact Kd.S_mono HO_0.out (fun k_ hk => ⟨hk, fun e_ => e_⟩))); obtain ⟨oki25, ce25, hcl25, hM25, hcc25, hfr25, hoki25, hH25⟩ := Kd.S_elem HX25.out z69 (x5_1 : Int) (of_decide_eq_true as_) (by have h_ : (x5_1 : Int) < ((x0_1.length : Int) : Int) := of_decide_eq_true as_; first | exact h_ | (have e_ := (Kd.S_reads' HO_0.out).1; omega) | simpa using h_); obtain ⟨ve25_5, rfl, ge25_5⟩ := k69_openM hM25; have HP25 := Kd.S_seg hH25 (of_decide_eq_true as_) (by have h_ : (x5_1 : Int) < ((x0_1.length : Int) : Int) := of_decide_eq_true as_; first | exact h_ | (have e_ := (Kd.S_reads' HO_0.out).1; omega) | simpa using h_) (seg := [.string t427]) (j := 6) (show 7 ≤ 7 from by decide) (x' := (⟨(rd_T69 y9426 x5_1).f0, (rd_T69 y9426 x5_1).f1, (rd_T69 y9426 x5_1).f2, (⟨(rd_T69 y9426 x5_1).f3.f0, (rd_T69 y9426 x5_1).f3.f1, (rd_T69 y9426 x5_1).f3.f2⟩ : S47), t427⟩ : S69)) (k69_mkM _ _ _ (⟨(rd_T69 y9426 x5_1).f0, (rd_T69 y9426 x5_1).f1, (rd_T69 y9426 x5_1).f2, (⟨(rd_T69 y9426 x5_1).f3.f0, (rd_T69 y9426 x5_1).f3.f1, (rd_T69 y9426 x5_1).f3.f2⟩ : S47), t427⟩ : S69) (Kd.R_mono ge25_5 (fun _ h_ => Or.inl h_))) (fun _ hk => hk) (fun k_ hk_ => hk_.elim); have hx25_6 := hcc25 6 _ rfl; (try simp only [show (k69).sz = 7 from rfl, Nat.mul_one, Nat.add_zero] at hx25_6); have hf25_6 := hfr25 6; (try simp only [show (k69).sz = 7 from rfl, Nat.mul_one, Nat.add_zero] at hf25_6); clear hcl25 hcc25 hfr25 hM25 hoki25 hH25) | ((with_reducible refine gate_store (t := 9) (p := 62) rfl ?_); refine store_event (t := 9) (p := 62) (v := ?vo_w26) (w1 := (w24.setCell ⟨go5, (x5_1 : Int).toNat * 7 + 6, none⟩ (.string t427))) ?hg ?ho ?hn ?hr ?_; (case ho => rfl); (case hg => rfl); (case hn => rfl); (case hr => first | (go_simp; done) | (go_simp; rfl)); intro w26 hw; have hg : w24.grownBy w26 (some go5) := (by rw [hw]; exact HP25.2); have hp_ : Kd.S k69 69 w26 w0.heap.size (fun k_ => (P0_ k_ ∨ w.heap.size ≤ k_)) (.slice (some ⟨go5, 0, none⟩) x0_1.length co13) y428 := (by rw [hw, Ny428.out]; exact HP25.1); clear HP25; have n0_ := Aside0.mk (hp_); have n2_ := Aside0.mk ((by rw [hw]; exact below_set (HB.out) GB5.out : Below w0.heap.size w0 w26)); have n3_ := Aside0.mk (Kept.of_grown (S := (fun k_ => P0_ k_)) hg (by repeat (first | (with_reducible first | exact HK.out | apply Kept.alloc | apply Kept.drewN | apply Kept.drew) | exact HK.out)) (fun k_ e_ => ((Kd.S_R HO_0.out).1 k_ e_))); clear HO_0; clear HB; clear HK; have HO_0 := n0_; have HB := n2_; have HK := n3_; (try clear n0_); (try clear n1_); (try clear n2_); (try clear n3_); clear hg hw hp_))
 go_roundg k1
 case measure => have := HK1.out; omega
 case rel => exact ⟨(y428), (wrap64 (t426 + 1)), (wrap64 (x5_1 + 1)), (sr_), (sr_), H', ⟨by have := HK1.out; omega⟩, ⟨by (with_reducible repeat (first | apply Kd.S_alloc | apply Kd.S_drewN | apply Kd.S_drew)); exact HO_0.out⟩, ⟨by repeat (first | (with_reducible first | exact HK.out | apply Kept.alloc | apply Kept.drewN | apply Kept.drew) | exact HK.out)⟩, ⟨bl_⟩⟩


mutual
def laws_FnExactReadScript.j0 : Nat → ByteArray → List (S69) → Int → Int → List (S69) → Bool → Option (Bool)
 | 0, _, _, _, _, _, _ => none
 | k + 1, x0, x3, x4, x5, x6, x42 => if x42 = true then (some false) else ((laws_markEventS.f k x6 1).bind fun bt440 => ((laws_heldEventS.f k bt440.2 1).bind fun t442 => (if t442 < 0 then (some false) else (if t442 = bt440.1 then ((impl_ReadScript.f k x0).bind fun bt443 => ((laws_eqEventS.f k bt443.1 x3).bind fun t448 => (if t448 = true then (if bt443.2.1 = x4 then (laws_FnExactReadScript.j1 k bt440.2 bt440.1 (bt443.2.2 != x5)) else (laws_FnExactReadScript.j1 k bt440.2 bt440.1 true)) else (laws_FnExactReadScript.j1 k bt440.2 bt440.1 true)))) else (some false)))))
def laws_FnExactReadScript.j1 : Nat → List (S69) → Int → Bool → Option (Bool)
 | 0, _, _, _ => none
 | k + 1, x6, x9, x73 => if x73 = true then (some false) else ((laws_heldEventS.f k x6 1).bind fun t449 => (if t449 < 0 then (some false) else (if t449 = x9 then (some true) else (some false))))
end
def laws_FnExactReadScript.f (k : Nat) (a0 : ByteArray) : Option (Bool) := if (a0.size : Int) > 1048576 then (some true) else ((spec_ReadScript.f k a0).bind fun bt429 => ((impl_ReadScript.f k a0).bind fun bt434 => ((laws_eqEventS.f k bt434.1 bt429.1).bind fun t439 => (if t439 = true then (if bt434.2.1 = bt429.2.1 then (laws_FnExactReadScript.j0 k a0 bt429.1 bt429.2.1 bt429.2.2 bt434.1 (bt434.2.2 != bt429.2.2)) else (laws_FnExactReadScript.j0 k a0 bt429.1 bt429.2.1 bt429.2.2 bt434.1 true)) else (laws_FnExactReadScript.j0 k a0 bt429.1 bt429.2.1 bt429.2.2 bt434.1 true)))))
theorem laws_FnExactReadScript.mono_l : ∀ k, (∀ y0 y1 y2 y3 y4 y5, LeO (laws_FnExactReadScript.j0 k y0 y1 y2 y3 y4 y5) (laws_FnExactReadScript.j0 (k + 1) y0 y1 y2 y3 y4 y5)) ∧ (∀ y0 y1 y2, LeO (laws_FnExactReadScript.j1 k y0 y1 y2) (laws_FnExactReadScript.j1 (k + 1) y0 y1 y2))
 | 0 => ⟨fun _ _ _ _ _ _ r h => by simp [laws_FnExactReadScript.j0] at h, fun _ _ _ r h => by simp [laws_FnExactReadScript.j1] at h⟩
 | k + 1 => by
  obtain ⟨ih0, ih1⟩ := laws_FnExactReadScript.mono_l k
  refine ⟨?_, ?_⟩
  ·intro y0 y1 y2 y3 y4 y5
   unfold laws_FnExactReadScript.j0
   have m0 := @impl_ReadScript.mono
   have m1 := @laws_eqEventS.mono
   have m2 := @laws_heldEventS.mono
   have m3 := @laws_markEventS.mono
   have m4 := @spec_ReadScript.mono
   exact mo_
  ·intro y0 y1 y2
   unfold laws_FnExactReadScript.j1
   have m0 := @impl_ReadScript.mono
   have m1 := @laws_eqEventS.mono
   have m2 := @laws_heldEventS.mono
   have m3 := @laws_markEventS.mono
   have m4 := @spec_ReadScript.mono
   exact mo_
theorem laws_FnExactReadScript.mono : ∀ a0 k, LeO (laws_FnExactReadScript.f k a0) (laws_FnExactReadScript.f (k + 1) a0) := by
 intro a0 k
 obtain ⟨ih0, ih1⟩ := laws_FnExactReadScript.mono_l k
 unfold laws_FnExactReadScript.f
 have m0 := @impl_ReadScript.mono
 have m1 := @laws_eqEventS.mono
 have m2 := @laws_heldEventS.mono
 have m3 := @laws_markEventS.mono
 have m4 := @spec_ReadScript.mono
 exact mo_
theorem sHand_3 {α : Type} {d : Kd α} {e base : Nat} {w : World} {ok : Nat → Prop} {v : Value} {xs : List α} (h : Kd.S d e w base ok v xs) : ∃ P_ : Nat → Prop, Kd.S d e w base P_ v xs ∧ ∀ k, P_ k → ok k ∧ base ≤ k ∧ k < w.heap.size ∧ ∃ q, q ∈ e :: d.E ∧ ∃ cells, w.heap[k]? = some (.cells cells q (0, 0)) := ⟨_, Kd.S_bound h, fun _ hk => hk⟩
theorem sBig_3 {α : Type} {d : Kd α} {e base : Nat} {w : World} {ok : Nat → Prop} {v : Value} {xs : List α} (h : Kd.S d e w base ok v xs) : Kd.S d e w base (fun k => ok k ∧ base ≤ k) v xs := Kd.S_mono (Kd.S_bound h) (fun _ hk => ⟨hk.1, hk.2.1⟩)
theorem sTypes_3 {w : World} {k b : Nat} {L L' : List Nat} (h : k < b ∧ ∃ q, q ∈ L ∧ ∃ cells, w.heap[k]? = some (.cells cells q (0, 0))) (h' : ∃ q, q ∈ L' ∧ ∃ cells, w.heap[k]? = some (.cells cells q (0, 0))) (hn : ∀ q, q ∈ L → ∀ q', q' ∈ L' → q ≠ q') : False := by
 obtain ⟨_, q, hq, c, hc⟩ := h
 obtain ⟨q', hq', c', hc'⟩ := h'
 rw [hc] at hc'
 injection hc' with hc'
 injection hc' with _ hc'
 exact hn q hq q' hq' hc'
theorem laws_FnExactReadScript.calls (k : Nat) (a0 : ByteArray) (r : Bool) (w : World) (hr1 : r = true) (h : laws_FnExactReadScript.f k a0 = some r) :
 Calls Try.prog 3 #[.string a0] w fun e w' => e = .returned (.bool r) ∧ Below w.heap.size w w' := by
 have HR1 := Aside0.mk hr1
 clear hr1
 have HB := Aside0.mk (Below.refl w.heap.size w)
 have H := h
 unfold laws_FnExactReadScript.f at H
 clear h
 by_cases c2 : (a0.size : Int) > 1048576
 ·rw [if_pos c2] at H
  have c2b0 := decide_eq_true c2
  have c2b1 : decide (1048576 < a0.size) = true := decide_eq_true (by omega)
  clear c2
  obtain rfl := Option.some.inj H
  go_enter Try.func3, Try.ntmps3
  go_wp2
  go_ret
  exact ⟨er_, bl_⟩
 rw [if_neg c2] at H
 have c2b0 := decide_eq_false c2
 have c2b1 : decide (1048576 < a0.size) = false := decide_eq_false (by omega)
 clear c2
 replace H := bs_ H
 obtain ⟨⟨t429, t430, t431⟩, A3, H⟩ := H
 try dsimp only at H
 replace H := bs_ H
 obtain ⟨⟨t434, t435, t436⟩, A4, H⟩ := H
 try dsimp only at H
 have HC5 := Aside0.mk H
 clear H
 go_enter Try.func3, Try.ntmps3
 go_upto_region 5 with (first | ((with_reducible refine gate_callee (f := 7) rfl ?_); refine gs_ (some 19) Try.func7 #[.string a0] ?_; (with_reducible refine (spec_ReadScript.calls k a0 t429 t430 t431 _ A3.out).mono ?_); rintro e w6 ⟨v432, rfl, ho0, hb⟩; refine ⟨_, rfl, ?_⟩; have HO433 := Aside0.mk (Kd.S_lower ho0 (below_size bl_)); replace HB := Aside0.mk (below_step bl_ hb); (try clear hb); (try clear ho0)) | ((with_reducible refine gate_callee (f := 8) rfl ?_); refine gs_ (some 25) Try.func8 #[.string a0] ?_; (with_reducible refine (impl_ReadScript.calls k a0 t434 t435 t436 _ A4.out).mono ?_); rintro e w7 ⟨v437, rfl, ho0, hb⟩; refine ⟨_, rfl, ?_⟩; have HO438 := Aside0.mk (Kd.S_lower (sBig_3 (Kd.S_new' ho0 (Kd.S_lt (by (with_reducible repeat (first | apply Kd.S_alloc | apply Kd.S_drewN | apply Kd.S_drew)); exact HO433.out)))) (below_size bl_)); replace HO433 := Aside0.mk (Kd.S_told (Kd.S_old (by (with_reducible repeat (first | apply Kd.S_alloc | apply Kd.S_drewN | apply Kd.S_drew)); exact HO433.out) hb) (Kd.S_base ho0)); replace HB := Aside0.mk (below_step bl_ hb); (try clear hb); (try clear ho0)))
 (try simp only [Act.put, List.setIfInBounds_toArray, List.set_cons_zero, List.set_cons_succ])
 go_cut [42] (fun v42 wc => ∃ (kq : Nat) (x42_4 : Bool), v42 = .bool x42_4 ∧ Aside0 (laws_FnExactReadScript.j0 kq a0 t429 t430 t431 t434 x42_4 = some r) ∧ Aside0 (kq ≤ k) ∧ Aside0 (Kd.S k69 69 wc w.heap.size (fun k_ => some k_ ≠ (v437 : Value).ownBlock ∧ k_ < w6.heap.size) v432 t429) ∧ Aside0 (Kd.S k69 69 wc w.heap.size (fun k_ => some k_ ≠ (v432 : Value).ownBlock ∧ w6.heap.size ≤ k_) v437 t434) ∧ Aside0 (Below w.heap.size w wc))
 case first =>
  have H := HC5.out
  clear HC5
  replace H := bs_ H
  obtain ⟨t439, A8, H⟩ := H
  try dsimp only at H
  by_cases c9 : t439 = true
  rotate_left
  ·replace c9 := Bool.eq_false_iff.mpr c9
   subst c9
   rw [nf_] at H
   have H' := Aside0.mk H
   clear H
   obtain ⟨Ao17, co17, eo17⟩ := Kd.S_slice HO438.out
   subst eo17
   obtain ⟨Ao18, co18, eo18⟩ := Kd.S_slice HO433.out
   subst eo18
   go_wp2_with (first | ((with_reducible refine gate_callee (f := 9) rfl ?_); refine gs_ (some 31) Try.func9 #[.slice Ao17 t434.length co17, .slice Ao18 t429.length co18] ?_; (with_reducible refine (laws_eqEventS.calls k _ _ t434 _ _ t429 false _ ?side1 ?side2 ?side3 ?side4 A8.out).mono ?_); (case side1 => exact cs_ ((Kd.S_reads' HO438.out).2.2)); (case side2 => exact (Kd.S_reads' HO438.out).2.1); (case side3 => exact cs_ ((Kd.S_reads' HO433.out).2.2)); (case side4 => exact (Kd.S_reads' HO433.out).2.1); rintro e w19 ⟨rfl, hb⟩; refine ⟨_, rfl, ?_⟩; replace HO433 := Aside0.mk (Kd.S_below (by (with_reducible repeat (first | apply Kd.S_alloc | apply Kd.S_drewN | apply Kd.S_drew)); exact HO433.out) hb); replace HO438 := Aside0.mk (Kd.S_below (by (with_reducible repeat (first | apply Kd.S_alloc | apply Kd.S_drewN | apply Kd.S_drew)); exact HO438.out) hb); replace HB := Aside0.mk (below_step bl_ hb); (try clear hb)))
   go_meet
   case rel => exact ⟨_, (true), (sr_), H', ⟨by first | omega | exact Nat.le_refl _⟩, ⟨by (with_reducible repeat (first | apply Kd.S_alloc | apply Kd.S_drewN | apply Kd.S_drew)); exact Kd.S_mono HO433.out (fun _ hk => ⟨hk.1.2, hk.2⟩)⟩, ⟨by (with_reducible repeat (first | apply Kd.S_alloc | apply Kd.S_drewN | apply Kd.S_drew)); exact Kd.S_mono HO438.out (fun _ hk => ⟨hk.1.2, hk.2⟩)⟩, ⟨bl_⟩⟩
  subst c9
  rw [if_pos rfl] at H
  by_cases c10 : t435 = t430
  rotate_left
  ·rw [if_neg c10] at H
   have c10b0 : (t435 == t430) = false := beq_eq_false_iff_ne.mpr c10
   have c10b1 : (t435 != t430) = true := bne_iff_ne.mpr c10
   (first | rw [c10b0] | (simp only [i64_w, i32_w]; rw [c10b0]) | skip)
   have H' := Aside0.mk H
   clear H
   obtain ⟨Ao14, co14, eo14⟩ := Kd.S_slice HO438.out
   subst eo14
   obtain ⟨Ao15, co15, eo15⟩ := Kd.S_slice HO433.out
   subst eo15
   go_wp2_with (first | ((with_reducible refine gate_callee (f := 9) rfl ?_); refine gs_ (some 31) Try.func9 #[.slice Ao14 t434.length co14, .slice Ao15 t429.length co15] ?_; (with_reducible refine (laws_eqEventS.calls k _ _ t434 _ _ t429 true _ ?side1 ?side2 ?side3 ?side4 A8.out).mono ?_); (case side1 => exact cs_ ((Kd.S_reads' HO438.out).2.2)); (case side2 => exact (Kd.S_reads' HO438.out).2.1); (case side3 => exact cs_ ((Kd.S_reads' HO433.out).2.2)); (case side4 => exact (Kd.S_reads' HO433.out).2.1); rintro e w16 ⟨rfl, hb⟩; refine ⟨_, rfl, ?_⟩; replace HO433 := Aside0.mk (Kd.S_below (by (with_reducible repeat (first | apply Kd.S_alloc | apply Kd.S_drewN | apply Kd.S_drew)); exact HO433.out) hb); replace HO438 := Aside0.mk (Kd.S_below (by (with_reducible repeat (first | apply Kd.S_alloc | apply Kd.S_drewN | apply Kd.S_drew)); exact HO438.out) hb); replace HB := Aside0.mk (below_step bl_ hb); (try clear hb)))
   go_meet
   case rel => exact ⟨_, (true), (sr_), H', ⟨by first | omega | exact Nat.le_refl _⟩, ⟨by (with_reducible repeat (first | apply Kd.S_alloc | apply Kd.S_drewN | apply Kd.S_drew)); exact Kd.S_mono HO433.out (fun _ hk => ⟨hk.1.2, hk.2⟩)⟩, ⟨by (with_reducible repeat (first | apply Kd.S_alloc | apply Kd.S_drewN | apply Kd.S_drew)); exact Kd.S_mono HO438.out (fun _ hk => ⟨hk.1.2, hk.2⟩)⟩, ⟨bl_⟩⟩
  rw [if_pos c10] at H
  have c10b0 : (t435 == t430) = true := beq_iff_eq.mpr c10
  have c10b1 : (t435 != t430) = false := bne_eq_false_iff_eq.mpr c10
  clear c10
  (first | rw [c10b0] | (simp only [i64_w, i32_w]; rw [c10b0]) | skip)
  have H' := Aside0.mk H
  clear H
  obtain ⟨Ao11, co11, eo11⟩ := Kd.S_slice HO438.out
  subst eo11
  obtain ⟨Ao12, co12, eo12⟩ := Kd.S_slice HO433.out
  subst eo12
  go_wp2_with (first | ((with_reducible refine gate_callee (f := 9) rfl ?_); refine gs_ (some 31) Try.func9 #[.slice Ao11 t434.length co11, .slice Ao12 t429.length co12] ?_; (with_reducible refine (laws_eqEventS.calls k _ _ t434 _ _ t429 true _ ?side1 ?side2 ?side3 ?side4 A8.out).mono ?_); (case side1 => exact cs_ ((Kd.S_reads' HO438.out).2.2)); (case side2 => exact (Kd.S_reads' HO438.out).2.1); (case side3 => exact cs_ ((Kd.S_reads' HO433.out).2.2)); (case side4 => exact (Kd.S_reads' HO433.out).2.1); rintro e w13 ⟨rfl, hb⟩; refine ⟨_, rfl, ?_⟩; replace HO433 := Aside0.mk (Kd.S_below (by (with_reducible repeat (first | apply Kd.S_alloc | apply Kd.S_drewN | apply Kd.S_drew)); exact HO433.out) hb); replace HO438 := Aside0.mk (Kd.S_below (by (with_reducible repeat (first | apply Kd.S_alloc | apply Kd.S_drewN | apply Kd.S_drew)); exact HO438.out) hb); replace HB := Aside0.mk (below_step bl_ hb); (try clear hb)))
  go_meet
  case rel => exact ⟨_, ((t436 != t431)), (sr_), H', ⟨by first | omega | exact Nat.le_refl _⟩, ⟨by (with_reducible repeat (first | apply Kd.S_alloc | apply Kd.S_drewN | apply Kd.S_drew)); exact Kd.S_mono HO433.out (fun _ hk => ⟨hk.1.2, hk.2⟩)⟩, ⟨by (with_reducible repeat (first | apply Kd.S_alloc | apply Kd.S_drewN | apply Kd.S_drew)); exact Kd.S_mono HO438.out (fun _ hk => ⟨hk.1.2, hk.2⟩)⟩, ⟨bl_⟩⟩
 clear HC5
 try clear c2
 try clear c2b0
 try clear c2b1
 obtain ⟨kq, x42_4, rfl, HA, HJ4, HO_3, HO_6, HB⟩ := hcut
 cases kq with
 | zero => exact absurd HA.out (by simp [laws_FnExactReadScript.j0])
 | succ kj4 => ?_
 have H := HA.out
 clear HA
 simp only [laws_FnExactReadScript.j0] at H
 by_cases c20 : x42_4 = true
 ·subst c20
  rw [if_pos rfl] at H
  exact absurd ((Option.some.inj H).trans HR1.out) (by decide)
 replace c20 := Bool.eq_false_iff.mpr c20
 subst c20
 rw [nf_] at H
 replace H := bs_ H
 obtain ⟨⟨t440, t441⟩, A21, H⟩ := H
 try dsimp only at H
 replace H := bs_ H
 obtain ⟨t442, A22, H⟩ := H
 try dsimp only at H
 by_cases c23 : t442 < 0
 ·rw [if_pos c23] at H
  have c23b0 := decide_eq_true c23
  clear c23
  exact absurd ((Option.some.inj H).trans HR1.out) (by decide)
 rw [if_neg c23] at H
 have c23b0 := decide_eq_false c23
 clear c23
 by_cases c24 : t442 = t440
 rotate_left
 ·rw [if_neg c24] at H
  have c24b0 : (t442 == t440) = false := beq_eq_false_iff_ne.mpr c24
  have c24b1 : (t442 != t440) = true := bne_iff_ne.mpr c24
  exact absurd ((Option.some.inj H).trans HR1.out) (by decide)
 rw [if_pos c24] at H
 have c24b0 : (t442 == t440) = true := beq_iff_eq.mpr c24
 have c24b1 : (t442 != t440) = false := bne_eq_false_iff_eq.mpr c24
 clear c24
 replace H := bs_ H
 obtain ⟨⟨t443, t444, t445⟩, A25, H⟩ := H
 try dsimp only at H
 have HC26 := Aside0.mk H
 clear H
 obtain ⟨Ao27, co27, eo27⟩ := Kd.S_slice HO_6.out
 subst eo27
 go_upto_region 16 with (first | ((with_reducible refine gate_callee (f := 10) rfl ?_); obtain ⟨PS_6_, hS_6_, hP_6_⟩ := sHand_3 (HO_6.out); refine gs_ (some 45) Try.func10 #[.slice Ao27 t434.length co27, .int .i64 1] ?_; (with_reducible refine (laws_markEventS.calls kj4 PS_6_ (.slice Ao27 t434.length co27) t434 1 t440 t441 w _ ?side1 ?side2 A21.out).mono ?_); (case side1 => repeat (first | (with_reducible first | exact HB.out | apply below_alloc | apply pw_below_drewN | apply below_drew1) | exact HB.out)); (case side2 => exact hS_6_); rintro e w28 ⟨rfl, hy0, hb, hkp⟩; refine ⟨_, rfl, ?_⟩; replace HO_6 := Aside0.mk (Kd.S_mono (ok' := fun k_ => some k_ ≠ (v432 : Value).ownBlock) hy0 (fun k_ hk_ => Or.elim hk_ (fun hs_ => (hP_6_ _ hs_).1.1) (fun hn_ => fun e_ => Nat.not_le.2 (Kd.S_lt HO_3.out k_ e_.symm) hn_))); replace HO_3 := Aside0.mk (Kd.S_mono (ok' := fun k_ => some k_ ≠ (.slice Ao27 t434.length co27 : Value).ownBlock ∧ k_ < w6.heap.size) (Kd.S_keptB (HO_3.out) hkp (fun k_ hk_ hs_ => (fun e_ => Nat.not_le.2 (hk_.2) ((hP_6_ _ e_).1.2)) hs_)) (fun k_ hk_ => ⟨hk_.1.1, hk_.1.2⟩)); replace HB := Aside0.mk (hb); (try clear hb); (try clear hkp); (try clear hy0); (try clear PS_6_ hS_6_ hP_6_)) | ((with_reducible refine gate_callee (f := 11) rfl ?_); refine goesL_ (some 48) rfl rfl Try.func11 (by kernel_rfl) rfl #[.slice Ao27 t441.length co27, .int .i64 1] rfl (by (try simp only [List.map_toArray, List.map_cons, List.map_nil]); first | done | (rw [show t441.length = t434.length from (Kd.S_reads' HO_6.out).1.symm] <;> rfl) | rfl | (simp only [List.length_drop, List.length_take]; rfl)) ?_; (with_reducible refine (laws_heldEventS.calls kj4 _ _ t441 1 t442 _ ?side1 ?side2 A22.out).mono ?_); (case side1 => exact cs_ ((Kd.S_reads' HO_6.out).2.2)); (case side2 => rw [show t441.length = t434.length from (Kd.S_reads' HO_6.out).1.symm]; exact (Kd.S_reads' HO_6.out).2.1); rintro e w29 ⟨rfl, hb⟩; refine ⟨_, rfl, ?_⟩; replace HO_3 := Aside0.mk (Kd.S_below (by (with_reducible repeat (first | apply Kd.S_alloc | apply Kd.S_drewN | apply Kd.S_drew)); exact HO_3.out) hb); replace HO_6 := Aside0.mk (Kd.S_below (by (with_reducible repeat (first | apply Kd.S_alloc | apply Kd.S_drewN | apply Kd.S_drew)); exact HO_6.out) hb); replace HB := Aside0.mk (below_step bl_ hb); (try clear hb)) | ((with_reducible refine gate_callee (f := 8) rfl ?_); refine gs_ (some 56) Try.func8 #[.string a0] ?_; (with_reducible refine (impl_ReadScript.calls kj4 a0 t443 t444 t445 _ A25.out).mono ?_); rintro e w30 ⟨v446, rfl, ho0, hb⟩; refine ⟨_, rfl, ?_⟩; have HO447 := Aside0.mk (Kd.S_lower (sBig_3 (Kd.S_new' (Kd.S_new' ho0 (Kd.S_lt (by (with_reducible repeat (first | apply Kd.S_alloc | apply Kd.S_drewN | apply Kd.S_drew)); exact HO_3.out))) (Kd.S_lt (by (with_reducible repeat (first | apply Kd.S_alloc | apply Kd.S_drewN | apply Kd.S_drew)); exact HO_6.out)))) (below_size bl_)); replace HO_3 := Aside0.mk (Kd.S_told (Kd.S_old (by (with_reducible repeat (first | apply Kd.S_alloc | apply Kd.S_drewN | apply Kd.S_drew)); exact HO_3.out) hb) (Kd.S_base ho0)); replace HO_6 := Aside0.mk (Kd.S_told (Kd.S_old (by (with_reducible repeat (first | apply Kd.S_alloc | apply Kd.S_drewN | apply Kd.S_drew)); exact HO_6.out) hb) (Kd.S_base ho0)); replace HB := Aside0.mk (below_step bl_ hb); (try clear hb); (try clear ho0)))
 (try simp only [Act.put, List.setIfInBounds_toArray, List.set_cons_zero, List.set_cons_succ])
 go_cut [73] (fun v73 wc => ∃ (kq : Nat) (x73_25 : Bool), v73 = .bool x73_25 ∧ Aside0 (laws_FnExactReadScript.j1 kq t441 t440 x73_25 = some r) ∧ Aside0 (kq ≤ kj4) ∧ Aside0 (Kd.S k69 69 wc w.heap.size (fun k_ => k_ < w29.heap.size) (.slice Ao27 t434.length co27) t441) ∧ Aside0 (Below w.heap.size w wc))
 case first =>
  have H := HC26.out
  clear HC26
  replace H := bs_ H
  obtain ⟨t448, A31, H⟩ := H
  try dsimp only at H
  by_cases c32 : t448 = true
  rotate_left
  ·replace c32 := Bool.eq_false_iff.mpr c32
   subst c32
   rw [nf_] at H
   have H' := Aside0.mk H
   clear H
   obtain ⟨Ao40, co40, eo40⟩ := Kd.S_slice HO447.out
   subst eo40
   obtain ⟨Ao41, co41, eo41⟩ := Kd.S_slice HO_3.out
   subst eo41
   go_wp2_with (first | ((with_reducible refine gate_callee (f := 9) rfl ?_); refine gs_ (some 62) Try.func9 #[.slice Ao40 t443.length co40, .slice Ao41 t429.length co41] ?_; (with_reducible refine (laws_eqEventS.calls kj4 _ _ t443 _ _ t429 false _ ?side1 ?side2 ?side3 ?side4 A31.out).mono ?_); (case side1 => exact cs_ ((Kd.S_reads' HO447.out).2.2)); (case side2 => exact (Kd.S_reads' HO447.out).2.1); (case side3 => exact cs_ ((Kd.S_reads' HO_3.out).2.2)); (case side4 => exact (Kd.S_reads' HO_3.out).2.1); rintro e w42 ⟨rfl, hb⟩; refine ⟨_, rfl, ?_⟩; replace HO_3 := Aside0.mk (Kd.S_below (by (with_reducible repeat (first | apply Kd.S_alloc | apply Kd.S_drewN | apply Kd.S_drew)); exact HO_3.out) hb); replace HO_6 := Aside0.mk (Kd.S_below (by (with_reducible repeat (first | apply Kd.S_alloc | apply Kd.S_drewN | apply Kd.S_drew)); exact HO_6.out) hb); replace HO447 := Aside0.mk (Kd.S_below (by (with_reducible repeat (first | apply Kd.S_alloc | apply Kd.S_drewN | apply Kd.S_drew)); exact HO447.out) hb); replace HB := Aside0.mk (below_step bl_ hb); (try clear hb)))
   go_meet
   case rel => exact ⟨_, (true), (sr_), H', ⟨by have := HJ4.out; first | omega | exact Nat.le_refl _⟩, ⟨by (with_reducible repeat (first | apply Kd.S_alloc | apply Kd.S_drewN | apply Kd.S_drew)); exact Kd.S_mono HO_6.out (fun _ hk => hk.2)⟩, ⟨bl_⟩⟩
  subst c32
  rw [if_pos rfl] at H
  by_cases c33 : t444 = t430
  rotate_left
  ·rw [if_neg c33] at H
   have c33b0 : (t444 == t430) = false := beq_eq_false_iff_ne.mpr c33
   have c33b1 : (t444 != t430) = true := bne_iff_ne.mpr c33
   (first | rw [c33b0] | (simp only [i64_w, i32_w]; rw [c33b0]) | skip)
   have H' := Aside0.mk H
   clear H
   obtain ⟨Ao37, co37, eo37⟩ := Kd.S_slice HO447.out
   subst eo37
   obtain ⟨Ao38, co38, eo38⟩ := Kd.S_slice HO_3.out
   subst eo38
   go_wp2_with (first | ((with_reducible refine gate_callee (f := 9) rfl ?_); refine gs_ (some 62) Try.func9 #[.slice Ao37 t443.length co37, .slice Ao38 t429.length co38] ?_; (with_reducible refine (laws_eqEventS.calls kj4 _ _ t443 _ _ t429 true _ ?side1 ?side2 ?side3 ?side4 A31.out).mono ?_); (case side1 => exact cs_ ((Kd.S_reads' HO447.out).2.2)); (case side2 => exact (Kd.S_reads' HO447.out).2.1); (case side3 => exact cs_ ((Kd.S_reads' HO_3.out).2.2)); (case side4 => exact (Kd.S_reads' HO_3.out).2.1); rintro e w39 ⟨rfl, hb⟩; refine ⟨_, rfl, ?_⟩; replace HO_3 := Aside0.mk (Kd.S_below (by (with_reducible repeat (first | apply Kd.S_alloc | apply Kd.S_drewN | apply Kd.S_drew)); exact HO_3.out) hb); replace HO_6 := Aside0.mk (Kd.S_below (by (with_reducible repeat (first | apply Kd.S_alloc | apply Kd.S_drewN | apply Kd.S_drew)); exact HO_6.out) hb); replace HO447 := Aside0.mk (Kd.S_below (by (with_reducible repeat (first | apply Kd.S_alloc | apply Kd.S_drewN | apply Kd.S_drew)); exact HO447.out) hb); replace HB := Aside0.mk (below_step bl_ hb); (try clear hb)))
   go_meet
   case rel => exact ⟨_, (true), (sr_), H', ⟨by have := HJ4.out; first | omega | exact Nat.le_refl _⟩, ⟨by (with_reducible repeat (first | apply Kd.S_alloc | apply Kd.S_drewN | apply Kd.S_drew)); exact Kd.S_mono HO_6.out (fun _ hk => hk.2)⟩, ⟨bl_⟩⟩
  rw [if_pos c33] at H
  have c33b0 : (t444 == t430) = true := beq_iff_eq.mpr c33
  have c33b1 : (t444 != t430) = false := bne_eq_false_iff_eq.mpr c33
  clear c33
  (first | rw [c33b0] | (simp only [i64_w, i32_w]; rw [c33b0]) | skip)
  have H' := Aside0.mk H
  clear H
  obtain ⟨Ao34, co34, eo34⟩ := Kd.S_slice HO447.out
  subst eo34
  obtain ⟨Ao35, co35, eo35⟩ := Kd.S_slice HO_3.out
  subst eo35
  go_wp2_with (first | ((with_reducible refine gate_callee (f := 9) rfl ?_); refine gs_ (some 62) Try.func9 #[.slice Ao34 t443.length co34, .slice Ao35 t429.length co35] ?_; (with_reducible refine (laws_eqEventS.calls kj4 _ _ t443 _ _ t429 true _ ?side1 ?side2 ?side3 ?side4 A31.out).mono ?_); (case side1 => exact cs_ ((Kd.S_reads' HO447.out).2.2)); (case side2 => exact (Kd.S_reads' HO447.out).2.1); (case side3 => exact cs_ ((Kd.S_reads' HO_3.out).2.2)); (case side4 => exact (Kd.S_reads' HO_3.out).2.1); rintro e w36 ⟨rfl, hb⟩; refine ⟨_, rfl, ?_⟩; replace HO_3 := Aside0.mk (Kd.S_below (by (with_reducible repeat (first | apply Kd.S_alloc | apply Kd.S_drewN | apply Kd.S_drew)); exact HO_3.out) hb); replace HO_6 := Aside0.mk (Kd.S_below (by (with_reducible repeat (first | apply Kd.S_alloc | apply Kd.S_drewN | apply Kd.S_drew)); exact HO_6.out) hb); replace HO447 := Aside0.mk (Kd.S_below (by (with_reducible repeat (first | apply Kd.S_alloc | apply Kd.S_drewN | apply Kd.S_drew)); exact HO447.out) hb); replace HB := Aside0.mk (below_step bl_ hb); (try clear hb)))
  go_meet
  case rel => exact ⟨_, ((t445 != t431)), (sr_), H', ⟨by have := HJ4.out; first | omega | exact Nat.le_refl _⟩, ⟨by (with_reducible repeat (first | apply Kd.S_alloc | apply Kd.S_drewN | apply Kd.S_drew)); exact Kd.S_mono HO_6.out (fun _ hk => hk.2)⟩, ⟨bl_⟩⟩
 clear HC26
 try clear c2
 try clear c2b0
 try clear c2b1
 try clear c20
 try clear c23
 try clear c23b0
 try clear c24
 try clear c24b0
 try clear c24b1
 obtain ⟨kq, x73_25, rfl, HA, HJ25, HO_6, HB⟩ := hcut
 have hl6_25 := (Kd.S_reads' HO_6.out).1
 rw [hl6_25] at HO_6
 (try simp only [hl6_25])
 cases kq with
 | zero => exact absurd HA.out (by simp [laws_FnExactReadScript.j1])
 | succ kj25 => ?_
 have H := HA.out
 clear HA
 simp only [laws_FnExactReadScript.j1] at H
 by_cases c43 : x73_25 = true
 ·subst c43
  rw [if_pos rfl] at H
  exact absurd ((Option.some.inj H).trans HR1.out) (by decide)
 replace c43 := Bool.eq_false_iff.mpr c43
 subst c43
 rw [nf_] at H
 replace H := bs_ H
 obtain ⟨t449, A44, H⟩ := H
 try dsimp only at H
 by_cases c45 : t449 < 0
 ·rw [if_pos c45] at H
  have c45b0 := decide_eq_true c45
  clear c45
  exact absurd ((Option.some.inj H).trans HR1.out) (by decide)
 rw [if_neg c45] at H
 have c45b0 := decide_eq_false c45
 clear c45
 by_cases c46 : t449 = t440
 rotate_left
 ·rw [if_neg c46] at H
  have c46b0 : (t449 == t440) = false := beq_eq_false_iff_ne.mpr c46
  have c46b1 : (t449 != t440) = true := bne_iff_ne.mpr c46
  exact absurd ((Option.some.inj H).trans HR1.out) (by decide)
 rw [if_pos c46] at H
 have c46b0 : (t449 == t440) = true := beq_iff_eq.mpr c46
 have c46b1 : (t449 != t440) = false := bne_eq_false_iff_eq.mpr c46
 clear c46
 obtain rfl := Option.some.inj H
 go_wp2_with (first | ((with_reducible refine gate_callee (f := 11) rfl ?_); refine gs_ (some 76) Try.func11 #[.slice Ao27 t441.length co27, .int .i64 1] ?_; (with_reducible refine (laws_heldEventS.calls kj25 _ _ t441 1 t449 _ ?side1 ?side2 A44.out).mono ?_); (case side1 => exact cs_ ((Kd.S_reads' HO_6.out).2.2)); (case side2 => exact (Kd.S_reads' HO_6.out).2.1); rintro e w47 ⟨rfl, hb⟩; refine ⟨_, rfl, ?_⟩; replace HO_6 := Aside0.mk (Kd.S_below (by (with_reducible repeat (first | apply Kd.S_alloc | apply Kd.S_drewN | apply Kd.S_drew)); exact HO_6.out) hb); replace HB := Aside0.mk (below_step bl_ hb); (try clear hb)))
 go_ret
 exact ⟨er_, bl_⟩

def laws_FnExactReadScript.Pure : Prop := ∀ (a0 : ByteArray), a0.size ≤ 140737488351232 → ∃ k, laws_FnExactReadScript.f k a0 = some true
theorem laws_FnExactReadScript.walk (P : laws_FnExactReadScript.Pure) (a0 : ByteArray) (w : World) (w0 : a0.size ≤ 140737488351232) :
 Calls Try.prog 3 #[.string a0] w fun e w' => e = .returned (.bool true) ∧ Below w.heap.size w w' := by
 obtain ⟨k, h⟩ := P a0 w0
 refine (laws_FnExactReadScript.calls k a0 true w rfl h).mono ?_
 rintro e w' ⟨rfl, hd⟩
 exact ⟨rfl, hd⟩

end Go.Proofs.Ytjfmpodeenidnaa.PA

namespace Go.Proofs.Ytjfmpodeenidnaa.Kit
open Go.RowKit Go.Proofs.YtjfmpodeenidnaaW.PrintWords Go.Proofs.YtjfmpodeenidnaaW.PrintLast Go.Proofs.YtjfmpodeenidnaaW.PrintMore
set_option linter.unusedVariables false
set_option linter.unusedSimpArgs false

theorem w64 {x : Int} (h0 : -9223372036854775808 ≤ x) (h1 : x ≤ 9223372036854775807) : wrap64 x = x := by unfold wrap64; omega

section
variable {α β : Type}
theorem evSucc {g : Nat → Option α} {r : α} (h : Ev (fun k => g (k + 1)) r) : Ev g r := Ev.step (fun _ => rfl) h
theorem evPos {c : Prop} [Decidable c] {g f : Nat → Option α} {r : α} (hc : c) (h : Ev g r) : Ev (fun k => if c then g k else f k) r := Ev.congr (fun k => if_pos hc) h
theorem evNeg {c : Prop} [Decidable c] {g f : Nat → Option α} {r : α} (hc : ¬ c) (h : Ev f r) : Ev (fun k => if c then g k else f k) r := Ev.congr (fun k => if_neg hc) h
theorem evIte {c : Prop} [Decidable c] {g f : Nat → Option α} {r s : α} (h : c → Ev g r) (h' : ¬ c → Ev f s) : Ev (fun k => if c then g k else f k) (if c then r else s) := by
 by_cases hc : c
 ·rw [if_pos hc]; exact evPos hc (h hc)
 ·rw [if_neg hc]; exact evNeg hc (h' hc)
theorem evSome (r : α) : Ev (fun _ => some r) r := Ev.now r
theorem evEq {g : Nat → Option α} {r s : α} (h : Ev g r) (e : r = s) : Ev g s := e ▸ h
theorem evBindS {x : Option α} {f : Nat → α → Option β} {a : α} {r : β} (h : x = some a) (k : Ev (fun n => f n a) r) : Ev (fun n => x.bind (f n)) r := by subst h; exact k
theorem evConst {x : Option α} {r : α} (h : x = some r) : Ev (fun _ => x) r := by subst h; exact Ev.now r
end

section
variable {α β : Type}
theorem evUp {r : α} (n : Nat) (g : Nat → Nat → Option α) (step : ∀ i, i < n → Ev (g (i + 1)) r → Ev (g i) r) (last : Ev (g n) r) : Ev (g 0) r := by
 have key : ∀ d i, i + d = n → Ev (g i) r := by
  intro d
  induction d with
  | zero => intro i hi; rw [show i = n by omega]; exact last
  | succ d ih => intro i hi; exact step i (by omega) (ih (i + 1) (by omega))
 exact key n 0 (by omega)
theorem fillStep (f : α → β) (z : β) (l : List α) (i : Nat) (hi : i < l.length) :
 ((l.take i).map f ++ List.replicate (l.length - i) z).set i (f l[i]) = (l.take (i + 1)).map f ++ List.replicate (l.length - (i + 1)) z := by
 have h1 : ((l.take i).map f).length = i := by simp; omega
 rw [show l.length - i = (l.length - (i + 1)) + 1 by omega, List.replicate_succ, List.set_append_right _ _ (by omega), h1, Nat.sub_self, List.set_cons_zero,
  List.take_succ_eq_append_getElem hi, List.map_append, List.append_assoc]
 rfl
theorem takeSnoc (l : List α) (i : Nat) (hi : i < l.length) : l.take (i + 1) = l.take i ++ [l[i]] := List.take_succ_eq_append_getElem hi
theorem ci (i : Nat) : (i : Int) + 1 = ((i + 1 : Nat) : Int) := by omega
theorem sizeApp (a b : ByteArray) : (a ++ b).size = a.size + b.size := ByteArray.size_append
end

theorem okI64 {n : Int} (h : (Lit.int .i64 n).wf = true) : -9223372036854775808 ≤ n ∧ n ≤ 9223372036854775807 := by
 simp [Lit.wf, IntKind.min, IntKind.max, IntKind.signed, IntKind.bits] at h
 omega
end Go.Proofs.Ytjfmpodeenidnaa.Kit

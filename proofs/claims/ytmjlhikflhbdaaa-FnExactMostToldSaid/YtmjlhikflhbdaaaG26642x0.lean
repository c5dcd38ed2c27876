/- Contracts of functions of the program and of the reference, and plain lemmas on what they compute. No condition. -/
import Derived.Test.YtmjlhikflhbdaaaGabbbex0
import Derived.Test.YtmjlhikflhbdaaaShortV
namespace Go.Proofs.Ytmjlhikflhbdaaa.PA
open Go.RowKit Go.Proofs.YtmjlhikflhbdaaaW.PrintWords Go.Proofs.YtmjlhikflhbdaaaW.PrintLast Go.Proofs.YtmjlhikflhbdaaaW.PrintMore
attribute [local go_sem] max2_int min2_int max_two min_two max_three min_three max_four min_four   -- for this text's walks alone
set_option linter.unusedVariables false
set_option linter.unusedSimpArgs false

/-! ### laws_szEntryS: function 38 -/
def laws_szEntryS.f (l0 : List (S135)) (a1 : Int) : Option (Int) := if (wrap64 (a1 - (l0.length : Int))) < 0 then (some (-1)) else (some (wrap64 (a1 - (l0.length : Int))))
set_option maxHeartbeats 8000000 in
set_option maxRecDepth 100000 in
theorem laws_szEntryS.calls (A0 : Option Addr) (c0 : Nat) (l0 : List (S135)) (a1 : Int) (r : Int) (w : World) (hr0 : Kd.C k135 w A0 l0.length l0) (hc0 : l0.length ≤ c0) (h : laws_szEntryS.f l0 a1 = some r) :
 Calls Try.prog 38 #[.slice A0 l0.length c0, .int .i64 a1] w fun e w' => e = .returned (.int .i64 r) ∧ Drawn0 w w' := by
 have HR0 := Aside0.mk hr0
 have HC0 := Aside0.mk hc0
 clear hr0 hc0
 have H : (if (wrap64 (a1 - (l0.length : Int))) < 0 then (some (-1)) else (some (wrap64 (a1 - (l0.length : Int))))) = some r := h
 clear h
 by_cases c3 : (wrap64 (a1 - (l0.length : Int))) < 0
 ·rw [if_pos c3] at H
  have c3b0 : decide ((wrap64 (a1 - (l0.length : Int))) < 0) = true := decide_eq_true c3
  clear c3
  obtain rfl := Option.some.inj H
  go_enter Try.func38, Try.ntmps38
  go_wp2
  go_ret
  exact ⟨by first | rfl | (simp; done) | (simp [*]; done), by repeat (first | exact Drawn0.refl _ | apply Drawn0.step)⟩
 ·rw [if_neg c3] at H
  have c3b0 : decide ((wrap64 (a1 - (l0.length : Int))) < 0) = false := decide_eq_false c3
  clear c3
  obtain rfl := Option.some.inj H
  go_enter Try.func38, Try.ntmps38
  go_wp2
  go_ret
  exact ⟨by first | rfl | (simp; done) | (simp [*]; done), by repeat (first | exact Drawn0.refl _ | apply Drawn0.step)⟩

end Go.Proofs.Ytmjlhikflhbdaaa.PA

namespace Go.Proofs.Ytmjlhikflhbdaaa.PA
open Go.RowKit Go.Proofs.Ytmjlhikflhbdaaa.Short Go.Proofs.YtmjlhikflhbdaaaW.PrintWords Go.Proofs.YtmjlhikflhbdaaaW.PrintLast Go.Proofs.YtmjlhikflhbdaaaW.PrintMore
attribute [local go_sem] max2_int min2_int max_two min_two max_three min_three max_four min_four   -- for this text's walks alone
set_option linter.unusedVariables false
set_option linter.unusedSimpArgs false

/-! ### laws_toItem: function 173 -/
def laws_toItem.f (a0_0 : Int) (a0_1 : Int) (a0_2 : Int) (a0_3 : Int) : Option (Int × Int × Int × Int) := some (a0_0, a0_1, a0_2, a0_3)
set_option maxHeartbeats 8000000 in
set_option maxRecDepth 100000 in
theorem laws_toItem.calls (a0_0 : Int) (a0_1 : Int) (a0_2 : Int) (a0_3 : Int) (r1 : Int) (r2 : Int) (r3 : Int) (r4 : Int) (w : World) (h : laws_toItem.f a0_0 a0_1 a0_2 a0_3 = some (r1, r2, r3, r4)) :
 Calls Try.prog 173 #[.agg #[.int .i64 a0_0, .int .i64 a0_1, .int .i64 a0_2, .int .i64 a0_3]] w fun e w' => e = .returned (.agg #[.int .i64 r1, .int .i64 r2, .int .i64 r3, .int .i64 r4]) ∧ Below w.heap.size w w' := by
 have hu133 := Try.underlying133
 have hu129 := Try.underlying129
 have HB := Aside0.mk (Below.refl w.heap.size w)
 have H : (some (a0_0, a0_1, a0_2, a0_3)) = some (r1, r2, r3, r4) := h
 clear h
 simp only [Option.some.injEq, Prod.mk.injEq] at H
 obtain ⟨rfl, rfl, rfl, rfl⟩ := H
 go_enter Try.func173, Try.ntmps173
 go_wp2_with (first | ((with_reducible refine gate_dst (N := 1) rfl ?_); refine box_event ?hg (N := 1) ?hd (cs := #[.int .i64 a0_0, .int .i64 a0_1, .int .i64 a0_2, .int .i64 a0_3]) (t := 133) ?hr ?_; (case hd => rfl); (case hg => rfl); (case hr => first | (go_simp; done) | (go_simp; rfl)); intro gb945 hg w2 hbox hb; have n0_ := Aside0.mk (below_step bl_ hb); have n1_ := Aside0.mk (hbox); have n2_ := Aside0.mk ((hz_ : w.heap.size ≤ gb945)); have n3_ := Aside0.mk ((hz_ : w.heap.size ≤ gb945)); clear HB; have HB := n0_; have BK945 := n1_; have GW945 := n2_; have GE945 := n3_; clear n0_ n1_ n2_ n3_; clear hb hbox hg) | ((with_reducible refine gate_dst (N := 2) rfl ?_); refine box_event ?hg (N := 2) ?hd (cs := #[.int .i64 0, .int .i64 0, .int .i64 0, .int .i64 0]) (t := 129) ?hr ?_; (case hd => rfl); (case hg => rfl); (case hr => first | (go_simp; done) | (go_simp; rfl)); intro gb946 hg w3 hbox hb; have n0_ := Aside0.mk (blk_below (g := gb945) (o := .cells #[.int .i64 a0_0, .int .i64 a0_1, .int .i64 a0_2, .int .i64 a0_3] 133 (0, 0)) (bk_ BK945.out) hb); have n1_ := Aside0.mk (below_step bl_ hb); have n2_ := Aside0.mk (hbox); have n3_ := Aside0.mk ((hz_ : w.heap.size ≤ gb946)); have n4_ := Aside0.mk ((hz_ : w.heap.size ≤ gb946)); have n5_ := Aside0.mk ((by rw [hg]; exact Nat.ne_of_lt (blk_lt (g := gb945) (o := .cells #[.int .i64 a0_0, .int .i64 a0_1, .int .i64 a0_2, .int .i64 a0_3] 133 (0, 0)) (bk_ BK945.out)) : gb945 ≠ gb946)); have n6_ := Aside0.mk ((by rw [hg]; exact Nat.ne_of_gt (blk_lt (g := gb945) (o := .cells #[.int .i64 a0_0, .int .i64 a0_1, .int .i64 a0_2, .int .i64 a0_3] 133 (0, 0)) (bk_ BK945.out)) : gb946 ≠ gb945)); clear BK945; clear HB; have BK945 := n0_; have HB := n1_; have BK946 := n2_; have GW946 := n3_; have GE946 := n4_; have NB945_946 := n5_; have NB946_945 := n6_; clear n0_ n1_ n2_ n3_ n4_ n5_ n6_; clear hb hbox hg) | ((with_reducible refine gate_dst (N := 3) rfl ?_); refine box_event ?hg (N := 3) ?hd (cs := #[.int .i64 0, .int .i64 0, .int .i64 0, .int .i64 0]) (t := 129) ?hr ?_; (case hd => rfl); (case hg => rfl); (case hr => first | (go_simp; done) | (go_simp; rfl)); intro gb947 hg w4 hbox hb; have n0_ := Aside0.mk (blk_below (g := gb945) (o := .cells #[.int .i64 a0_0, .int .i64 a0_1, .int .i64 a0_2, .int .i64 a0_3] 133 (0, 0)) (bk_ BK945.out) hb); have n1_ := Aside0.mk (blk_below (g := gb946) (o := .cells #[.int .i64 0, .int .i64 0, .int .i64 0, .int .i64 0] 129 (0, 0)) (bk_ BK946.out) hb); have n2_ := Aside0.mk (below_step bl_ hb); have n3_ := Aside0.mk (hbox); have n4_ := Aside0.mk ((hz_ : w.heap.size ≤ gb947)); have n5_ := Aside0.mk ((hz_ : w.heap.size ≤ gb947)); have n6_ := Aside0.mk ((by rw [hg]; exact Nat.ne_of_lt (blk_lt (g := gb945) (o := .cells #[.int .i64 a0_0, .int .i64 a0_1, .int .i64 a0_2, .int .i64 a0_3] 133 (0, 0)) (bk_ BK945.out)) : gb945 ≠ gb947)); have n7_ := Aside0.mk ((by rw [hg]; exact Nat.ne_of_gt (blk_lt (g := gb945) (o := .cells #[.int .i64 a0_0, .int .i64 a0_1, .int .i64 a0_2, .int .i64 a0_3] 133 (0, 0)) (bk_ BK945.out)) : gb947 ≠ gb945)); have n8_ := Aside0.mk ((by rw [hg]; exact Nat.ne_of_lt (blk_lt (g := gb946) (o := .cells #[.int .i64 0, .int .i64 0, .int .i64 0, .int .i64 0] 129 (0, 0)) (bk_ BK946.out)) : gb946 ≠ gb947)); have n9_ := Aside0.mk ((by rw [hg]; exact Nat.ne_of_gt (blk_lt (g := gb946) (o := .cells #[.int .i64 0, .int .i64 0, .int .i64 0, .int .i64 0] 129 (0, 0)) (bk_ BK946.out)) : gb947 ≠ gb946)); clear BK945; clear BK946; clear HB; have BK945 := n0_; have BK946 := n1_; have HB := n2_; have BK947 := n3_; have GW947 := n4_; have GE947 := n5_; have NB945_947 := n6_; have NB947_945 := n7_; have NB946_947 := n8_; have NB947_946 := n9_; clear n0_ n1_ n2_ n3_ n4_ n5_ n6_ n7_ n8_ n9_; clear hb hbox hg; have hnb5 := NB945_946.out; have hnc5 := NB946_945.out; have hnb6 := NB945_947.out; have hnc6 := NB947_945.out; have hcz7_0 : w4.cell? ⟨gb945, 0, none⟩ = some (.int .i64 a0_0) := (blk_cell BK945.out 0).trans rfl; have hcz7_1 : w4.cell? ⟨gb945, 1, none⟩ = some (.int .i64 a0_1) := (blk_cell BK945.out 1).trans rfl; have hcz7_2 : w4.cell? ⟨gb945, 2, none⟩ = some (.int .i64 a0_2) := (blk_cell BK945.out 2).trans rfl; have hcz7_3 : w4.cell? ⟨gb945, 3, none⟩ = some (.int .i64 a0_3) := (blk_cell BK945.out 3).trans rfl; have hfz7_0 := blk_frozen BK945.out 0; have hfz7_1 := blk_frozen BK945.out 1; have hfz7_2 := blk_frozen BK945.out 2; have hfz7_3 := blk_frozen BK945.out 3; have hnb8 := NB947_946.out; have hnc8 := NB946_947.out; have hcz9_0 : w4.cell? ⟨gb947, 0, none⟩ = some (.int .i64 0) := (blk_cell BK947.out 0).trans rfl; have hcz9_1 : w4.cell? ⟨gb947, 1, none⟩ = some (.int .i64 0) := (blk_cell BK947.out 1).trans rfl; have hcz9_2 : w4.cell? ⟨gb947, 2, none⟩ = some (.int .i64 0) := (blk_cell BK947.out 2).trans rfl; have hcz9_3 : w4.cell? ⟨gb947, 3, none⟩ = some (.int .i64 0) := (blk_cell BK947.out 3).trans rfl; have hfz9_0 := blk_frozen BK947.out 0; have hfz9_1 := blk_frozen BK947.out 1; have hfz9_2 := blk_frozen BK947.out 2; have hfz9_3 := blk_frozen BK947.out 3; have hcz10_0 : w4.cell? ⟨gb946, 0, none⟩ = some (.int .i64 0) := (blk_cell BK946.out 0).trans rfl; have hcz10_1 : w4.cell? ⟨gb946, 1, none⟩ = some (.int .i64 0) := (blk_cell BK946.out 1).trans rfl; have hcz10_2 : w4.cell? ⟨gb946, 2, none⟩ = some (.int .i64 0) := (blk_cell BK946.out 2).trans rfl; have hcz10_3 : w4.cell? ⟨gb946, 3, none⟩ = some (.int .i64 0) := (blk_cell BK946.out 3).trans rfl; have hfz10_0 := blk_frozen BK946.out 0; have hfz10_1 := blk_frozen BK946.out 1; have hfz10_2 := blk_frozen BK946.out 2; have hfz10_3 := blk_frozen BK946.out 3))
 refine bodyPost_ret (results_cell_row rfl _ _ gb946 129 #[.int .i64 a0_0, .int .i64 a0_1, .int .i64 a0_2, .int .i64 a0_3] (0, 0) _ rfl (by (with_reducible repeat (first | refine blk_drewN ?_ _ | refine blk_drew ?_ | refine blk_alloc ?_ _)); refine blk_put (cs := #[.int .i64 a0_0, .int .i64 a0_1, .int .i64 a0_2, .int .i64 0]) ?_ 3 _ rfl; (with_reducible repeat (first | refine blk_drewN ?_ _ | refine blk_drew ?_ | refine blk_alloc ?_ _)); refine blk_put (cs := #[.int .i64 a0_0, .int .i64 a0_1, .int .i64 0, .int .i64 0]) ?_ 2 _ rfl; (with_reducible repeat (first | refine blk_drewN ?_ _ | refine blk_drew ?_ | refine blk_alloc ?_ _)); refine blk_put (cs := #[.int .i64 a0_0, .int .i64 0, .int .i64 0, .int .i64 0]) ?_ 1 _ rfl; (with_reducible repeat (first | refine blk_drewN ?_ _ | refine blk_drew ?_ | refine blk_alloc ?_ _)); refine blk_put (cs := #[.int .i64 0, .int .i64 0, .int .i64 0, .int .i64 0]) ?_ 0 _ rfl; (with_reducible repeat (first | refine blk_drewN ?_ _ | refine blk_drew ?_ | refine blk_alloc ?_ _)); refine blk_far ?_ NB946_947.out _; (with_reducible repeat (first | refine blk_drewN ?_ _ | refine blk_drew ?_ | refine blk_alloc ?_ _)); refine blk_far ?_ NB946_947.out _; (with_reducible repeat (first | refine blk_drewN ?_ _ | refine blk_drew ?_ | refine blk_alloc ?_ _)); refine blk_far ?_ NB946_947.out _; (with_reducible repeat (first | refine blk_drewN ?_ _ | refine blk_drew ?_ | refine blk_alloc ?_ _)); refine blk_far ?_ NB946_947.out _; (with_reducible repeat (first | refine blk_drewN ?_ _ | refine blk_drew ?_ | refine blk_alloc ?_ _)); exact BK946.out) Try.underlying129 rfl (by kernel_rfl)) rfl ?_
 exact ⟨by first | rfl | (simp [errW_none, errW_some] <;> rfl) | (simp [*, errW_none, errW_some] <;> rfl) | exact False.elim (Bool.noConfusion ((decide_eq_true (of_eq_true (by assumption))).symm.trans (by assumption))), bl_⟩


/-! ### laws_toEntry: function 124 -/
def laws_toEntry.f (a0_0 : Int) (a0_1 : Int) (a0_2 : Int) (a0_3 : Int) (a0_4 : Int) (a0_5 : Int) : Option (Int × Int × Int × Int × Int × Int) := (laws_toItem.f a0_2 a0_3 a0_4 a0_5).bind fun bt951 => (some (a0_0, a0_1, bt951.1, bt951.2.1, bt951.2.2.1, bt951.2.2.2))
set_option maxHeartbeats 8000000 in
set_option maxRecDepth 100000 in
theorem laws_toEntry.calls (a0_0 : Int) (a0_1 : Int) (a0_2 : Int) (a0_3 : Int) (a0_4 : Int) (a0_5 : Int) (r1 : Int) (r2 : Int) (r3 : Int) (r4 : Int) (r5 : Int) (r6 : Int) (w : World) (h : laws_toEntry.f a0_0 a0_1 a0_2 a0_3 a0_4 a0_5 = some (r1, r2, r3, r4, r5, r6)) :
 Calls Try.prog 124 #[.agg #[.int .i64 a0_0, .int .i64 a0_1, .int .i64 a0_2, .int .i64 a0_3, .int .i64 a0_4, .int .i64 a0_5]] w fun e w' => e = .returned (.agg #[.int .i64 r1, .int .i64 r2, .int .i64 r3, .int .i64 r4, .int .i64 r5, .int .i64 r6]) ∧ Below w.heap.size w w' := by
 have hu135 := Try.underlying135
 have hu131 := Try.underlying131
 have hu133 := Try.underlying133
 have hu129 := Try.underlying129
 have HB := Aside0.mk (Below.refl w.heap.size w)
 have H : ((laws_toItem.f a0_2 a0_3 a0_4 a0_5).bind fun bt951 => (some (a0_0, a0_1, bt951.1, bt951.2.1, bt951.2.2.1, bt951.2.2.2))) = some (r1, r2, r3, r4, r5, r6) := h
 clear h
 replace H := Option.bind_eq_some_iff.mp H
 obtain ⟨⟨t951, t952, t953, t954⟩, A20, H⟩ := H
 try dsimp only at H
 have A2 := Aside0.mk A20
 clear A20
 simp only [Option.some.injEq, Prod.mk.injEq] at H
 obtain ⟨rfl, rfl, rfl, rfl, rfl, rfl⟩ := H
 go_enter Try.func124, Try.ntmps124
 go_wp2_with (first | ((with_reducible refine gate_dst (N := 1) rfl ?_); refine box_event ?hg (N := 1) ?hd (cs := #[.int .i64 a0_0, .int .i64 a0_1, .int .i64 a0_2, .int .i64 a0_3, .int .i64 a0_4, .int .i64 a0_5]) (t := 135) ?hr ?_; (case hd => rfl); (case hg => rfl); (case hr => first | (go_simp; done) | (go_simp; rfl)); intro gb948 hg w3 hbox hb; have n0_ := Aside0.mk (below_step bl_ hb); have n1_ := Aside0.mk (hbox); have n2_ := Aside0.mk ((hz_ : w.heap.size ≤ gb948)); have n3_ := Aside0.mk ((hz_ : w.heap.size ≤ gb948)); clear HB; have HB := n0_; have BK948 := n1_; have GW948 := n2_; have GE948 := n3_; clear n0_ n1_ n2_ n3_; clear hb hbox hg) | ((with_reducible refine gate_dst (N := 2) rfl ?_); refine box_event ?hg (N := 2) ?hd (cs := #[.int .i64 0, .int .i64 0, .int .i64 0, .int .i64 0, .int .i64 0, .int .i64 0]) (t := 131) ?hr ?_; (case hd => rfl); (case hg => rfl); (case hr => first | (go_simp; done) | (go_simp; rfl)); intro gb949 hg w4 hbox hb; have n0_ := Aside0.mk (blk_below (g := gb948) (o := .cells #[.int .i64 a0_0, .int .i64 a0_1, .int .i64 a0_2, .int .i64 a0_3, .int .i64 a0_4, .int .i64 a0_5] 135 (0, 0)) (bk_ BK948.out) hb); have n1_ := Aside0.mk (below_step bl_ hb); have n2_ := Aside0.mk (hbox); have n3_ := Aside0.mk ((hz_ : w.heap.size ≤ gb949)); have n4_ := Aside0.mk ((hz_ : w.heap.size ≤ gb949)); have n5_ := Aside0.mk ((by rw [hg]; exact Nat.ne_of_lt (blk_lt (g := gb948) (o := .cells #[.int .i64 a0_0, .int .i64 a0_1, .int .i64 a0_2, .int .i64 a0_3, .int .i64 a0_4, .int .i64 a0_5] 135 (0, 0)) (bk_ BK948.out)) : gb948 ≠ gb949)); have n6_ := Aside0.mk ((by rw [hg]; exact Nat.ne_of_gt (blk_lt (g := gb948) (o := .cells #[.int .i64 a0_0, .int .i64 a0_1, .int .i64 a0_2, .int .i64 a0_3, .int .i64 a0_4, .int .i64 a0_5] 135 (0, 0)) (bk_ BK948.out)) : gb949 ≠ gb948)); clear BK948; clear HB; have BK948 := n0_; have HB := n1_; have BK949 := n2_; have GW949 := n3_; have GE949 := n4_; have NB948_949 := n5_; have NB949_948 := n6_; clear n0_ n1_ n2_ n3_ n4_ n5_ n6_; clear hb hbox hg) | ((with_reducible refine gate_dst (N := 3) rfl ?_); refine box_event ?hg (N := 3) ?hd (cs := #[.int .i64 0, .int .i64 0, .int .i64 0, .int .i64 0, .int .i64 0, .int .i64 0]) (t := 131) ?hr ?_; (case hd => rfl); (case hg => rfl); (case hr => first | (go_simp; done) | (go_simp; rfl)); intro gb950 hg w5 hbox hb; have n0_ := Aside0.mk (blk_below (g := gb948) (o := .cells #[.int .i64 a0_0, .int .i64 a0_1, .int .i64 a0_2, .int .i64 a0_3, .int .i64 a0_4, .int .i64 a0_5] 135 (0, 0)) (bk_ BK948.out) hb); have n1_ := Aside0.mk (blk_below (g := gb949) (o := .cells #[.int .i64 0, .int .i64 0, .int .i64 0, .int .i64 0, .int .i64 0, .int .i64 0] 131 (0, 0)) (bk_ BK949.out) hb); have n2_ := Aside0.mk (below_step bl_ hb); have n3_ := Aside0.mk (hbox); have n4_ := Aside0.mk ((hz_ : w.heap.size ≤ gb950)); have n5_ := Aside0.mk ((hz_ : w.heap.size ≤ gb950)); have n6_ := Aside0.mk ((by rw [hg]; exact Nat.ne_of_lt (blk_lt (g := gb948) (o := .cells #[.int .i64 a0_0, .int .i64 a0_1, .int .i64 a0_2, .int .i64 a0_3, .int .i64 a0_4, .int .i64 a0_5] 135 (0, 0)) (bk_ BK948.out)) : gb948 ≠ gb950)); have n7_ := Aside0.mk ((by rw [hg]; exact Nat.ne_of_gt (blk_lt (g := gb948) (o := .cells #[.int .i64 a0_0, .int .i64 a0_1, .int .i64 a0_2, .int .i64 a0_3, .int .i64 a0_4, .int .i64 a0_5] 135 (0, 0)) (bk_ BK948.out)) : gb950 ≠ gb948)); have n8_ := Aside0.mk ((by rw [hg]; exact Nat.ne_of_lt (blk_lt (g := gb949) (o := .cells #[.int .i64 0, .int .i64 0, .int .i64 0, .int .i64 0, .int .i64 0, .int .i64 0] 131 (0, 0)) (bk_ BK949.out)) : gb949 ≠ gb950)); have n9_ := Aside0.mk ((by rw [hg]; exact Nat.ne_of_gt (blk_lt (g := gb949) (o := .cells #[.int .i64 0, .int .i64 0, .int .i64 0, .int .i64 0, .int .i64 0, .int .i64 0] 131 (0, 0)) (bk_ BK949.out)) : gb950 ≠ gb949)); clear BK948; clear BK949; clear HB; have BK948 := n0_; have BK949 := n1_; have HB := n2_; have BK950 := n3_; have GW950 := n4_; have GE950 := n5_; have NB948_950 := n6_; have NB950_948 := n7_; have NB949_950 := n8_; have NB950_949 := n9_; clear n0_ n1_ n2_ n3_ n4_ n5_ n6_ n7_ n8_ n9_; clear hb hbox hg; have hnb6 := NB948_949.out; have hnc6 := NB949_948.out; have hnb7 := NB948_950.out; have hnc7 := NB950_948.out; have hcz8_0 : w5.cell? ⟨gb948, 0, none⟩ = some (.int .i64 a0_0) := (blk_cell BK948.out 0).trans rfl; have hcz8_1 : w5.cell? ⟨gb948, 1, none⟩ = some (.int .i64 a0_1) := (blk_cell BK948.out 1).trans rfl; have hcz8_2 : w5.cell? ⟨gb948, 2, none⟩ = some (.int .i64 a0_2) := (blk_cell BK948.out 2).trans rfl; have hcz8_3 : w5.cell? ⟨gb948, 3, none⟩ = some (.int .i64 a0_3) := (blk_cell BK948.out 3).trans rfl; have hcz8_4 : w5.cell? ⟨gb948, 4, none⟩ = some (.int .i64 a0_4) := (blk_cell BK948.out 4).trans rfl; have hcz8_5 : w5.cell? ⟨gb948, 5, none⟩ = some (.int .i64 a0_5) := (blk_cell BK948.out 5).trans rfl; have hfz8_0 := blk_frozen BK948.out 0; have hfz8_1 := blk_frozen BK948.out 1; have hfz8_2 := blk_frozen BK948.out 2; have hfz8_3 := blk_frozen BK948.out 3; have hfz8_4 := blk_frozen BK948.out 4; have hfz8_5 := blk_frozen BK948.out 5; have hnb9 := NB950_949.out; have hnc9 := NB949_950.out; have hcz10_0 : w5.cell? ⟨gb950, 0, none⟩ = some (.int .i64 0) := (blk_cell BK950.out 0).trans rfl; have hcz10_1 : w5.cell? ⟨gb950, 1, none⟩ = some (.int .i64 0) := (blk_cell BK950.out 1).trans rfl; have hcz10_2 : w5.cell? ⟨gb950, 2, none⟩ = some (.int .i64 0) := (blk_cell BK950.out 2).trans rfl; have hcz10_3 : w5.cell? ⟨gb950, 3, none⟩ = some (.int .i64 0) := (blk_cell BK950.out 3).trans rfl; have hcz10_4 : w5.cell? ⟨gb950, 4, none⟩ = some (.int .i64 0) := (blk_cell BK950.out 4).trans rfl; have hcz10_5 : w5.cell? ⟨gb950, 5, none⟩ = some (.int .i64 0) := (blk_cell BK950.out 5).trans rfl; have hfz10_0 := blk_frozen BK950.out 0; have hfz10_1 := blk_frozen BK950.out 1; have hfz10_2 := blk_frozen BK950.out 2; have hfz10_3 := blk_frozen BK950.out 3; have hfz10_4 := blk_frozen BK950.out 4; have hfz10_5 := blk_frozen BK950.out 5) | ((with_reducible refine gate_callee (f := 173) rfl ?_); refine goesL_ (some 12) rfl rfl Try.func173 (by kernel_rfl) rfl #[.agg #[.int .i64 a0_2, .int .i64 a0_3, .int .i64 a0_4, .int .i64 a0_5]] rfl lm_ ?_; (with_reducible refine (laws_toItem.calls a0_2 a0_3 a0_4 a0_5 t951 t952 t953 t954 _ A2.out).mono ?_); rintro e w11 ⟨rfl, hb⟩; refine ⟨_, rfl, ?_⟩; have n0_ := Aside0.mk (blk_below (g := gb948) (o := .cells #[.int .i64 a0_0, .int .i64 a0_1, .int .i64 a0_2, .int .i64 a0_3, .int .i64 a0_4, .int .i64 a0_5] 135 (0, 0)) (by (with_reducible repeat (first | refine blk_drewN ?_ _ | refine blk_drew ?_ | refine blk_alloc ?_ _)); refine blk_far ?_ NB948_950.out _; (with_reducible repeat (first | refine blk_drewN ?_ _ | refine blk_drew ?_ | refine blk_alloc ?_ _)); refine blk_far ?_ NB948_950.out _; (with_reducible repeat (first | refine blk_drewN ?_ _ | refine blk_drew ?_ | refine blk_alloc ?_ _)); exact BK948.out) hb); have n1_ := Aside0.mk (blk_below (g := gb949) (o := .cells #[.int .i64 0, .int .i64 0, .int .i64 0, .int .i64 0, .int .i64 0, .int .i64 0] 131 (0, 0)) (by (with_reducible repeat (first | refine blk_drewN ?_ _ | refine blk_drew ?_ | refine blk_alloc ?_ _)); refine blk_far ?_ NB949_950.out _; (with_reducible repeat (first | refine blk_drewN ?_ _ | refine blk_drew ?_ | refine blk_alloc ?_ _)); refine blk_far ?_ NB949_950.out _; (with_reducible repeat (first | refine blk_drewN ?_ _ | refine blk_drew ?_ | refine blk_alloc ?_ _)); exact BK949.out) hb); have n2_ := Aside0.mk (blk_below (g := gb950) (o := .cells #[.int .i64 a0_0, .int .i64 a0_1, .int .i64 0, .int .i64 0, .int .i64 0, .int .i64 0] 131 (0, 0)) (by (with_reducible repeat (first | refine blk_drewN ?_ _ | refine blk_drew ?_ | refine blk_alloc ?_ _)); refine blk_put (cs := #[.int .i64 a0_0, .int .i64 0, .int .i64 0, .int .i64 0, .int .i64 0, .int .i64 0]) ?_ 1 _ rfl; (with_reducible repeat (first | refine blk_drewN ?_ _ | refine blk_drew ?_ | refine blk_alloc ?_ _)); refine blk_put (cs := #[.int .i64 0, .int .i64 0, .int .i64 0, .int .i64 0, .int .i64 0, .int .i64 0]) ?_ 0 _ rfl; (with_reducible repeat (first | refine blk_drewN ?_ _ | refine blk_drew ?_ | refine blk_alloc ?_ _)); exact BK950.out) hb); have n3_ := Aside0.mk (below_step bl_ hb); clear BK948; clear BK949; clear BK950; clear HB; have BK948 := n0_; have BK949 := n1_; have BK950 := n2_; have HB := n3_; clear n0_ n1_ n2_ n3_; (try clear hb); (try clear hb2); (try clear hk); (try clear hi); have hcz12_0 : w11.cell? ⟨gb950, 0, none⟩ = some (.int .i64 a0_0) := (blk_cell BK950.out 0).trans rfl; have hcz12_1 : w11.cell? ⟨gb950, 1, none⟩ = some (.int .i64 a0_1) := (blk_cell BK950.out 1).trans rfl; have hcz12_2 : w11.cell? ⟨gb950, 2, none⟩ = some (.int .i64 0) := (blk_cell BK950.out 2).trans rfl; have hcz12_3 : w11.cell? ⟨gb950, 3, none⟩ = some (.int .i64 0) := (blk_cell BK950.out 3).trans rfl; have hcz12_4 : w11.cell? ⟨gb950, 4, none⟩ = some (.int .i64 0) := (blk_cell BK950.out 4).trans rfl; have hcz12_5 : w11.cell? ⟨gb950, 5, none⟩ = some (.int .i64 0) := (blk_cell BK950.out 5).trans rfl; have hfz12_0 := blk_frozen BK950.out 0; have hfz12_1 := blk_frozen BK950.out 1; have hfz12_2 := blk_frozen BK950.out 2; have hfz12_3 := blk_frozen BK950.out 3; have hfz12_4 := blk_frozen BK950.out 4; have hfz12_5 := blk_frozen BK950.out 5; have hcz13_0 : w11.cell? ⟨gb949, 0, none⟩ = some (.int .i64 0) := (blk_cell BK949.out 0).trans rfl; have hcz13_1 : w11.cell? ⟨gb949, 1, none⟩ = some (.int .i64 0) := (blk_cell BK949.out 1).trans rfl; have hcz13_2 : w11.cell? ⟨gb949, 2, none⟩ = some (.int .i64 0) := (blk_cell BK949.out 2).trans rfl; have hcz13_3 : w11.cell? ⟨gb949, 3, none⟩ = some (.int .i64 0) := (blk_cell BK949.out 3).trans rfl; have hcz13_4 : w11.cell? ⟨gb949, 4, none⟩ = some (.int .i64 0) := (blk_cell BK949.out 4).trans rfl; have hcz13_5 : w11.cell? ⟨gb949, 5, none⟩ = some (.int .i64 0) := (blk_cell BK949.out 5).trans rfl; have hfz13_0 := blk_frozen BK949.out 0; have hfz13_1 := blk_frozen BK949.out 1; have hfz13_2 := blk_frozen BK949.out 2; have hfz13_3 := blk_frozen BK949.out 3; have hfz13_4 := blk_frozen BK949.out 4; have hfz13_5 := blk_frozen BK949.out 5))
 refine bodyPost_ret (results_cell_row rfl _ _ gb949 131 #[.int .i64 a0_0, .int .i64 a0_1, .int .i64 t951, .int .i64 t952, .int .i64 t953, .int .i64 t954] (0, 0) _ rfl (by (with_reducible repeat (first | refine blk_drewN ?_ _ | refine blk_drew ?_ | refine blk_alloc ?_ _)); refine blk_put (cs := #[.int .i64 a0_0, .int .i64 a0_1, .int .i64 t951, .int .i64 t952, .int .i64 t953, .int .i64 0]) ?_ 5 _ rfl; (with_reducible repeat (first | refine blk_drewN ?_ _ | refine blk_drew ?_ | refine blk_alloc ?_ _)); refine blk_put (cs := #[.int .i64 a0_0, .int .i64 a0_1, .int .i64 t951, .int .i64 t952, .int .i64 0, .int .i64 0]) ?_ 4 _ rfl; (with_reducible repeat (first | refine blk_drewN ?_ _ | refine blk_drew ?_ | refine blk_alloc ?_ _)); refine blk_put (cs := #[.int .i64 a0_0, .int .i64 a0_1, .int .i64 t951, .int .i64 0, .int .i64 0, .int .i64 0]) ?_ 3 _ rfl; (with_reducible repeat (first | refine blk_drewN ?_ _ | refine blk_drew ?_ | refine blk_alloc ?_ _)); refine blk_put (cs := #[.int .i64 a0_0, .int .i64 a0_1, .int .i64 0, .int .i64 0, .int .i64 0, .int .i64 0]) ?_ 2 _ rfl; (with_reducible repeat (first | refine blk_drewN ?_ _ | refine blk_drew ?_ | refine blk_alloc ?_ _)); refine blk_put (cs := #[.int .i64 a0_0, .int .i64 0, .int .i64 0, .int .i64 0, .int .i64 0, .int .i64 0]) ?_ 1 _ rfl; (with_reducible repeat (first | refine blk_drewN ?_ _ | refine blk_drew ?_ | refine blk_alloc ?_ _)); refine blk_put (cs := #[.int .i64 0, .int .i64 0, .int .i64 0, .int .i64 0, .int .i64 0, .int .i64 0]) ?_ 0 _ rfl; (with_reducible repeat (first | refine blk_drewN ?_ _ | refine blk_drew ?_ | refine blk_alloc ?_ _)); refine blk_far ?_ NB949_950.out _; (with_reducible repeat (first | refine blk_drewN ?_ _ | refine blk_drew ?_ | refine blk_alloc ?_ _)); refine blk_far ?_ NB949_950.out _; (with_reducible repeat (first | refine blk_drewN ?_ _ | refine blk_drew ?_ | refine blk_alloc ?_ _)); refine blk_far ?_ NB949_950.out _; (with_reducible repeat (first | refine blk_drewN ?_ _ | refine blk_drew ?_ | refine blk_alloc ?_ _)); refine blk_far ?_ NB949_950.out _; (with_reducible repeat (first | refine blk_drewN ?_ _ | refine blk_drew ?_ | refine blk_alloc ?_ _)); exact BK949.out) Try.underlying131 rfl (by kernel_rfl)) rfl ?_
 exact ⟨by first | rfl | (simp [errW_none, errW_some] <;> rfl) | (simp [*, errW_none, errW_some] <;> rfl) | exact False.elim (Bool.noConfusion ((decide_eq_true (of_eq_true (by assumption))).symm.trans (by assumption))), bl_⟩


/-! ### laws_toEntryS: function 40 -/
def laws_toEntryS.l0 : Nat → List (S135) → List (S131) → Int → Option ((List (S131)))
 | 0, _, _, _ => none
 | k + 1, x0, x3, x4 => if x4 < (x0.length : Int) then (if 0 ≤ x4 then ((laws_toEntry.f ((rd_T135 x0 x4).f0) ((rd_T135 x0 x4).f1) ((rd_T135 x0 x4).f2.f0) ((rd_T135 x0 x4).f2.f1) ((rd_T135 x0 x4).f2.f2) ((rd_T135 x0 x4).f2.f3)).bind fun bt959 => (if x4 < (x3.length : Int) then (laws_toEntryS.l0 k x0 (x3.set (x4 : Int).toNat (⟨bt959.1, bt959.2.1, (⟨bt959.2.2.1, bt959.2.2.2.1, bt959.2.2.2.2.1, bt959.2.2.2.2.2⟩ : S129)⟩ : S131)) (wrap64 (x4 + 1))) else (none))) else (none)) else (some x3)
def laws_toEntryS.f (k : Nat) (l0 : List (S135)) : Option ((List (S131))) := if 0 ≤ (l0.length : Int) then (if ((l0.length : Int) : Int).toNat ≤ 5864062014805 then (laws_toEntryS.l0 k l0 (List.replicate ((l0.length : Int) : Int).toNat z131) 0) else (none)) else (none)
theorem laws_toEntryS.mono_l : ∀ k, (∀ y0 y1 y2, LeO (laws_toEntryS.l0 k y0 y1 y2) (laws_toEntryS.l0 (k + 1) y0 y1 y2))
 | 0 => fun _ _ _ r h => by simp [laws_toEntryS.l0] at h
 | k + 1 => by
  have ih0 := laws_toEntryS.mono_l k
  ·intro y0 y1 y2
   unfold laws_toEntryS.l0
   repeat' first
   | (with_reducible exact ih0 _ _ _)
   | (with_reducible exact LeO.refl _)
   | (with_reducible exact LeO.none _)
   | (with_reducible refine LeO.ite ?_ ?_)
   | (with_reducible refine LeO.bind ?_ (fun _ => ?_))
   | exact ih0 _ _ _
   | exact LeO.none _
   | refine LeO.ite ?_ ?_
   | refine LeO.bind ?_ (fun _ => ?_)
theorem laws_toEntryS.mono : ∀ a0 k, LeO (laws_toEntryS.f k a0) (laws_toEntryS.f (k + 1) a0) := by
 intro a0 k
 have ih0 := laws_toEntryS.mono_l k
 unfold laws_toEntryS.f
 repeat' first
  | (with_reducible exact ih0 _ _ _)
  | (with_reducible exact LeO.refl _)
  | (with_reducible exact LeO.none _)
  | (with_reducible refine LeO.ite ?_ ?_)
  | (with_reducible refine LeO.bind ?_ (fun _ => ?_))
  | exact ih0 _ _ _
  | exact LeO.none _
  | refine LeO.ite ?_ ?_
  | refine LeO.bind ?_ (fun _ => ?_)
set_option maxHeartbeats 8000000 in
set_option maxRecDepth 100000 in
theorem laws_toEntryS.calls (k : Nat) (A0 : Option Addr) (c0 : Nat) (l0 : List (S135)) (r : List (S131)) (w : World) (hr0 : Kd.C k135 w A0 l0.length l0) (hc0 : l0.length ≤ c0) (h : laws_toEntryS.f k l0 = some r) :
 Calls Try.prog 40 #[.slice A0 l0.length c0] w fun e w' => ∃ v0_ : Value, e = .returned (v0_) ∧ Kd.R k131 131 w' w.heap.size (fun _ => True) v0_ r ∧ Below w.heap.size w w' := by
 have hu135 := Try.underlying135
 have hu131 := Try.underlying131
 have HR0 := Aside0.mk hr0
 have HC0 := Aside0.mk hc0
 clear hr0 hc0
 have HB := Aside0.mk (Below.refl w.heap.size w)
 have H : (if 0 ≤ (l0.length : Int) then (if ((l0.length : Int) : Int).toNat ≤ 5864062014805 then (laws_toEntryS.l0 k l0 (List.replicate ((l0.length : Int) : Int).toNat z131) 0) else (none)) else (none)) = some r := h
 clear h
 by_cases c2 : 0 ≤ (l0.length : Int)
 ·rw [if_pos c2] at H
  have c2b0 := eq_true c2
  have c2b1 : decide (0 ≤ (l0.length : Int)) = true := decide_eq_true c2
  clear c2
  by_cases c3 : ((l0.length : Int) : Int).toNat ≤ 5864062014805
  ·rw [if_pos c3] at H
   have c3b0 := eq_true c3
   have c3b1 : decide (((l0.length : Int) : Int).toNat ≤ 5864062014805) = true := decide_eq_true c3
   clear c3
   obtain ⟨y955, hy955⟩ : ∃ y_ : List (S131), y_ = (List.replicate ((l0.length : Int) : Int).toNat z131) := ⟨_, rfl⟩
   replace H : (laws_toEntryS.l0 k l0 y955 0) = some r := by first | (rw [hy955]; with_reducible exact H) | (have H2_ := (Option.bind_some _ _).symm.trans H; rw [hy955]; with_reducible exact H2_) | (have H2_ := (Option.bind_some _ _).symm.trans H; with_reducible exact H2_) | with_reducible exact H | (rw [hy955]; exact H) | exact H
   have Ny955 := Aside0.mk hy955
   clear hy955
   have H' := Aside0.mk H
   clear H
   go_enter Try.func40, Try.ntmps40
   go_wp2_with (first | ((with_reducible refine gate_dst (N := 7) rfl ?_); refine Kd.R_make k131 _ 131 rfl (N := 7) rfl 50 _ _ rfl (l0.length : Int) rfl rfl Try.underlying50 (.agg #[(.int .i64 0), (.int .i64 0), (.int .i64 0), (.int .i64 0), (.int .i64 0), (.int .i64 0)]) 48 info131 rfl (by decide) (by omega) z131 (ok := fun _ => True) (okp := fun _ => True) (k131_mkM _ _ _ z131 ) (fun _ hk => hk) trivial (of_decide_eq_true as_) (Nat.le_trans (Nat.mul_le_mul_right _ (of_decide_eq_true as_ : (l0.length : Int).toNat ≤ 5864062014805)) (by omega)) (Below.refl _ _) (Nat.le_refl _) ?_; intro v956 w4 ho5 hb hg_ hnew_; clear hg_ hnew_; (first | rw [← Ny955.out] at ho5 | (simp only [Int.reduceToNat] at ho5; rw [← Ny955.out] at ho5)); have n0_ := Aside0.mk (Kd.R_lower ho5 (below_size bl_)); have n1_ := Aside0.mk (below_step bl_ hb); clear HB; have HO957 := n0_; have HB := n1_; clear n0_ n1_; clear hb ho5))
   go_loopg [4] k (fun kq v4 w' => ∃ (x3_1 : List (S131)) (x4_1 : Int), v4 = .int .i64 x4_1 ∧ Aside0 (laws_toEntryS.l0 kq l0 x3_1 x4_1 = some r) ∧ Aside0 (kq ≤ k) ∧ Aside0 (Kd.R k131 131 w' w.heap.size (fun _ => True) v956 x3_1) ∧ Aside0 (Below w.heap.size w w'))
   case atStart => exact ⟨(y955), (0), (by first | rfl | (simp; done) | (simp [*]; done)), H', ⟨Nat.le_refl _⟩, ⟨ra_ HO957.out⟩, ⟨bl_⟩⟩
   case round =>
    clear H'
    try clear c2
    try clear c2b0
    try clear c2b1
    try clear p2
    try clear c3
    try clear c3b0
    try clear c3b1
    try clear c4
    obtain ⟨x3_1, x4_1, rfl, HA, HK1, HO_3, HB⟩ := hrel
    cases gk with
    | zero => exact absurd HA.out (by simp [laws_toEntryS.l0])
    | succ k1 =>
     have H := HA.out
     clear HA
     simp only [laws_toEntryS.l0] at H
     by_cases c6 : x4_1 < (l0.length : Int)
     ·rw [if_pos c6] at H
      have c6b0 : decide (x4_1 < (l0.length : Int)) = true := decide_eq_true c6
      clear c6
      by_cases c7 : 0 ≤ x4_1
      ·rw [if_pos c7] at H
       have c7b0 : decide (0 ≤ x4_1) = true := decide_eq_true c7
       clear c7
       replace H := Option.bind_eq_some_iff.mp H
       obtain ⟨⟨t959, t960, t961, t962, t963, t964⟩, A80, H⟩ := H
       try dsimp only at H
       have A8 := Aside0.mk A80
       clear A80
       by_cases c9 : x4_1 < (x3_1.length : Int)
       ·rw [if_pos c9] at H
        have c9b0 : decide (x4_1 < (x3_1.length : Int)) = true := decide_eq_true c9
        clear c9
        obtain ⟨y965, hy965⟩ : ∃ y_ : List (S131), y_ = (x3_1.set (x4_1 : Int).toNat (⟨t959, t960, (⟨t961, t962, t963, t964⟩ : S129)⟩ : S131)) := ⟨_, rfl⟩
        replace H : (laws_toEntryS.l0 k1 l0 y965 (wrap64 (x4_1 + 1))) = some r := by first | (rw [hy965]; with_reducible exact H) | (have H2_ := (Option.bind_some _ _).symm.trans H; rw [hy965]; with_reducible exact H2_) | (have H2_ := (Option.bind_some _ _).symm.trans H; with_reducible exact H2_) | with_reducible exact H | (rw [hy965]; exact H) | exact H
        have Ny965 := Aside0.mk hy965
        clear hy965
        have H' := Aside0.mk H
        clear H
        have p958 : 0 ≤ (x4_1 : Int) := of_decide_eq_true as_
        have q958 : x4_1 < (l0.length : Int) := of_decide_eq_true as_
        obtain ⟨ad958, e958, hx958_0, hx958_1, hx958_2, hx958_3, hx958_4, hx958_5⟩ := at_T135 HR0.out x4_1 p958 q958
        cases e958
        replace hx958_0 := (HB.out.cell (World.block_lt_of_cell? w _ hx958_0)).trans hx958_0
        replace hx958_1 := (HB.out.cell (World.block_lt_of_cell? w _ hx958_1)).trans hx958_1
        replace hx958_2 := (HB.out.cell (World.block_lt_of_cell? w _ hx958_2)).trans hx958_2
        replace hx958_3 := (HB.out.cell (World.block_lt_of_cell? w _ hx958_3)).trans hx958_3
        replace hx958_4 := (HB.out.cell (World.block_lt_of_cell? w _ hx958_4)).trans hx958_4
        replace hx958_5 := (HB.out.cell (World.block_lt_of_cell? w _ hx958_5)).trans hx958_5
        replace p958 := eq_true p958
        replace q958 := eq_true q958
        go_wp2_with (first | ((with_reducible refine gate_callee (f := 124) rfl ?_); refine goesL_ (some 20) rfl rfl Try.func124 (by kernel_rfl) rfl #[.agg #[.int .i64 ((rd_T135 l0 x4_1).f0), .int .i64 ((rd_T135 l0 x4_1).f1), .int .i64 ((rd_T135 l0 x4_1).f2.f0), .int .i64 ((rd_T135 l0 x4_1).f2.f1), .int .i64 ((rd_T135 l0 x4_1).f2.f2), .int .i64 ((rd_T135 l0 x4_1).f2.f3)]] rfl lm_ ?_; (with_reducible refine (laws_toEntry.calls ((rd_T135 l0 x4_1).f0) ((rd_T135 l0 x4_1).f1) ((rd_T135 l0 x4_1).f2.f0) ((rd_T135 l0 x4_1).f2.f1) ((rd_T135 l0 x4_1).f2.f2) ((rd_T135 l0 x4_1).f2.f3) t959 t960 t961 t962 t963 t964 _ A8.out).mono ?_); rintro e w11 ⟨rfl, hb⟩; refine ⟨_, rfl, ?_⟩; have n0_ := Aside0.mk (Kd.R_below (ra_ HO_3.out) hb); have n1_ := Aside0.mk (below_step bl_ hb); clear HO_3; clear HB; have HO_3 := n0_; have HB := n1_; clear n0_ n1_; (try clear hb); (try clear hb2); (try clear hk); (try clear hi); have p10 : 0 ≤ (x4_1 : Int) := of_decide_eq_true as_; have q10 : (x4_1 : Int) < ((x3_1.length : Int) : Int) := of_decide_eq_true as_; obtain ⟨go10, co10, eo10, gb10, gl10, cl10, HG10⟩ := Kd.R_form HO_3.out (by omega); (first | cases eo10 | (injection eo10 with ea_ en_ ec_; (first | subst ea_ | (injection ea_ with ea_; subst ea_)); subst ec_; clear en_)); have GB10 := Aside0.mk gb10; have GG10 := Aside0.mk HG10; clear gb10 gl10 HG10; obtain ⟨ce10, hcl10, hM10, hcc10, hfr10⟩ := Kd.R_elem HO_3.out z131 (x4_1 : Int) p10 q10; obtain rfl := k131_openM hM10; have hx10_0 : w11.cell? ⟨go10, (x4_1 : Int).toNat * 6, none⟩ = some (.int .i64 ((rd_T131 x3_1 x4_1).f0)) := hcc10 0 _ rfl; have hx10_1 : w11.cell? ⟨go10, (x4_1 : Int).toNat * 6 + 1, none⟩ = some (.int .i64 ((rd_T131 x3_1 x4_1).f1)) := hcc10 1 _ rfl; have hx10_2 : w11.cell? ⟨go10, (x4_1 : Int).toNat * 6 + 2, none⟩ = some (.int .i64 ((rd_T131 x3_1 x4_1).f2.f0)) := hcc10 2 _ rfl; have hx10_3 : w11.cell? ⟨go10, (x4_1 : Int).toNat * 6 + 3, none⟩ = some (.int .i64 ((rd_T131 x3_1 x4_1).f2.f1)) := hcc10 3 _ rfl; have hx10_4 : w11.cell? ⟨go10, (x4_1 : Int).toNat * 6 + 4, none⟩ = some (.int .i64 ((rd_T131 x3_1 x4_1).f2.f2)) := hcc10 4 _ rfl; have hx10_5 : w11.cell? ⟨go10, (x4_1 : Int).toNat * 6 + 5, none⟩ = some (.int .i64 ((rd_T131 x3_1 x4_1).f2.f3)) := hcc10 5 _ rfl; have hf10_0 : w11.frozen? ⟨go10, (x4_1 : Int).toNat * 6, none⟩ = false := hfr10 0; have hf10_1 : w11.frozen? ⟨go10, (x4_1 : Int).toNat * 6 + 1, none⟩ = false := hfr10 1; have hf10_2 : w11.frozen? ⟨go10, (x4_1 : Int).toNat * 6 + 2, none⟩ = false := hfr10 2; have hf10_3 : w11.frozen? ⟨go10, (x4_1 : Int).toNat * 6 + 3, none⟩ = false := hfr10 3; have hf10_4 : w11.frozen? ⟨go10, (x4_1 : Int).toNat * 6 + 4, none⟩ = false := hfr10 4; have hf10_5 : w11.frozen? ⟨go10, (x4_1 : Int).toNat * 6 + 5, none⟩ = false := hfr10 5; clear hcl10 hcc10 hfr10 hM10; replace p10 := eq_true p10; replace q10 := eq_true q10; have HX12 := Aside0.mk (show Kd.R k131 131 w11 w.heap.size (fun _ => True) (.slice (some ⟨go10, 0, none⟩) x3_1.length co10) x3_1 from (ra_ HO_3.out)); obtain ⟨ce12, hcl12, hM12, hcc12, hfr12⟩ := Kd.R_elem HX12.out z131 (x4_1 : Int) (of_decide_eq_true as_) (by have h_ : (x4_1 : Int) < ((x3_1.length : Int) : Int) := of_decide_eq_true as_; first | exact h_ | (have e_ := (Kd.R_reads' HO_3.out).1; omega) | simpa using h_); obtain rfl := k131_openM hM12; have HP12 := Kd.R_seg HX12.out (x4_1 : Int) (of_decide_eq_true as_) (by have h_ : (x4_1 : Int) < ((x3_1.length : Int) : Int) := of_decide_eq_true as_; first | exact h_ | (have e_ := (Kd.R_reads' HO_3.out).1; omega) | simpa using h_) (seg := [.int .i64 t959, .int .i64 t960, .int .i64 t961, .int .i64 t962, .int .i64 t963, .int .i64 t964]) (j := 0) hcl12 hcc12 (show 6 ≤ 6 from by decide) (x' := (⟨t959, t960, (⟨t961, t962, t963, t964⟩ : S129)⟩ : S131)) (k131_mkM _ _ _ (⟨t959, t960, (⟨t961, t962, t963, t964⟩ : S129)⟩ : S131) ) (fun _ hk => hk); have hx12_0 := hcc12 0 _ rfl; (try simp only [show (k131).sz = 6 from rfl, Nat.mul_one, Nat.add_zero] at hx12_0); have hf12_0 := hfr12 0; (try simp only [show (k131).sz = 6 from rfl, Nat.mul_one, Nat.add_zero] at hf12_0); have hx12_1 := hcc12 1 _ rfl; (try simp only [show (k131).sz = 6 from rfl, Nat.mul_one, Nat.add_zero] at hx12_1); have hf12_1 := hfr12 1; (try simp only [show (k131).sz = 6 from rfl, Nat.mul_one, Nat.add_zero] at hf12_1); have hx12_2 := hcc12 2 _ rfl; (try simp only [show (k131).sz = 6 from rfl, Nat.mul_one, Nat.add_zero] at hx12_2); have hf12_2 := hfr12 2; (try simp only [show (k131).sz = 6 from rfl, Nat.mul_one, Nat.add_zero] at hf12_2); have hx12_3 := hcc12 3 _ rfl; (try simp only [show (k131).sz = 6 from rfl, Nat.mul_one, Nat.add_zero] at hx12_3); have hf12_3 := hfr12 3; (try simp only [show (k131).sz = 6 from rfl, Nat.mul_one, Nat.add_zero] at hf12_3); have hx12_4 := hcc12 4 _ rfl; (try simp only [show (k131).sz = 6 from rfl, Nat.mul_one, Nat.add_zero] at hx12_4); have hf12_4 := hfr12 4; (try simp only [show (k131).sz = 6 from rfl, Nat.mul_one, Nat.add_zero] at hf12_4); have hx12_5 := hcc12 5 _ rfl; (try simp only [show (k131).sz = 6 from rfl, Nat.mul_one, Nat.add_zero] at hx12_5); have hf12_5 := hfr12 5; (try simp only [show (k131).sz = 6 from rfl, Nat.mul_one, Nat.add_zero] at hf12_5); clear hcl12 hcc12 hfr12 hM12) | ((with_reducible refine gate_store (t := 131) (p := 21) rfl ?_); refine store_event (t := 131) (p := 21) (v := ?vo_w13) (w1 := ((((((w11.setCell ⟨go10, (x4_1 : Int).toNat * 6, none⟩ (.int .i64 t959)).setCell ⟨go10, (x4_1 : Int).toNat * 6 + 1, none⟩ (.int .i64 t960)).setCell ⟨go10, (x4_1 : Int).toNat * 6 + 2, none⟩ (.int .i64 t961)).setCell ⟨go10, (x4_1 : Int).toNat * 6 + 3, none⟩ (.int .i64 t962)).setCell ⟨go10, (x4_1 : Int).toNat * 6 + 4, none⟩ (.int .i64 t963)).setCell ⟨go10, (x4_1 : Int).toNat * 6 + 5, none⟩ (.int .i64 t964))) ?hg ?ho ?hn ?hr ?_; (case ho => rfl); (case hg => rfl); (case hn => rfl); (case hr => first | (go_simp; done) | (go_simp; rfl)); intro w13 hw; have hg : w11.grownBy w13 (some go10) := (by rw [hw]; exact HP12.2); have hp_ : Kd.R k131 131 w13 w.heap.size (fun _ => True) (.slice (some ⟨go10, 0, none⟩) x3_1.length co10) y965 := (by rw [hw, Ny965.out]; exact HP12.1); clear HP12; have n0_ := Aside0.mk (hp_); have n1_ := Aside0.mk ((by rw [hw]; exact below_set (below_set (below_set (below_set (below_set (below_set (HB.out) GB10.out) GB10.out) GB10.out) GB10.out) GB10.out) GB10.out : Below w.heap.size w w13)); clear HO_3; clear HB; have HO_3 := n0_; have HB := n1_; clear n0_ n1_; clear hg hw hp_))
        go_roundg k1
        case measure => have := HK1.out; omega
        case rel => exact ⟨(y965), (wrap64 (x4_1 + 1)), (by first | rfl | (simp; done) | (simp [*]; done)), H', ⟨by have := HK1.out; omega⟩, ⟨ra_ HO_3.out⟩, ⟨bl_⟩⟩
       ·rw [if_neg c9] at H
        exact absurd H (by simp)
      ·rw [if_neg c7] at H
       exact absurd H (by simp)
     ·rw [if_neg c6] at H
      have c6b0 : decide (x4_1 < (l0.length : Int)) = false := decide_eq_false c6
      clear c6
      obtain rfl := Option.some.inj H
      go_wp2
      go_ret
      exact ⟨_, by first | rfl | (simp [errW_none, errW_some] <;> rfl) | (simp [*, errW_none, errW_some] <;> rfl) | exact False.elim (Bool.noConfusion ((decide_eq_true (of_eq_true (by assumption))).symm.trans (by assumption))), ra_ HO_3.out, bl_⟩
  ·rw [if_neg c3] at H
   exact absurd H (by simp)
 ·rw [if_neg c2] at H
  exact absurd H (by simp)


/-! ### laws_eqItem: function 174 -/
def laws_eqItem.f (a0_0 : Int) (a0_1 : Int) (a0_2 : Int) (a0_3 : Int) (a1_0 : Int) (a1_1 : Int) (a1_2 : Int) (a1_3 : Int) : Option (Bool) := if a0_0 = a1_0 then (if a0_1 = a1_1 then (if a0_2 = a1_2 then (if a0_3 = a1_3 then (some true) else (some false)) else (some false)) else (some false)) else (some false)
set_option maxHeartbeats 8000000 in
set_option maxRecDepth 100000 in
theorem laws_eqItem.calls (a0_0 : Int) (a0_1 : Int) (a0_2 : Int) (a0_3 : Int) (a1_0 : Int) (a1_1 : Int) (a1_2 : Int) (a1_3 : Int) (r : Bool) (w : World) (h : laws_eqItem.f a0_0 a0_1 a0_2 a0_3 a1_0 a1_1 a1_2 a1_3 = some r) :
 Calls Try.prog 174 #[.agg #[.int .i64 a0_0, .int .i64 a0_1, .int .i64 a0_2, .int .i64 a0_3], .agg #[.int .i64 a1_0, .int .i64 a1_1, .int .i64 a1_2, .int .i64 a1_3]] w fun e w' => e = .returned (.bool r) ∧ Below w.heap.size w w' := by
 have hu129 := Try.underlying129
 have HB := Aside0.mk (Below.refl w.heap.size w)
 have H : (if a0_0 = a1_0 then (if a0_1 = a1_1 then (if a0_2 = a1_2 then (if a0_3 = a1_3 then (some true) else (some false)) else (some false)) else (some false)) else (some false)) = some r := h
 clear h
 by_cases c3 : a0_0 = a1_0
 ·rw [if_pos c3] at H
  have c3b0 : (a0_0 == a1_0) = true := beq_iff_eq.mpr c3
  have c3b1 : (a0_0 != a1_0) = false := bne_eq_false_iff_eq.mpr c3
  clear c3
  by_cases c4 : a0_1 = a1_1
  ·rw [if_pos c4] at H
   have c4b0 : (a0_1 == a1_1) = true := beq_iff_eq.mpr c4
   have c4b1 : (a0_1 != a1_1) = false := bne_eq_false_iff_eq.mpr c4
   clear c4
   by_cases c5 : a0_2 = a1_2
   ·rw [if_pos c5] at H
    have c5b0 : (a0_2 == a1_2) = true := beq_iff_eq.mpr c5
    have c5b1 : (a0_2 != a1_2) = false := bne_eq_false_iff_eq.mpr c5
    clear c5
    by_cases c6 : a0_3 = a1_3
    ·rw [if_pos c6] at H
     have c6b0 : (a0_3 == a1_3) = true := beq_iff_eq.mpr c6
     have c6b1 : (a0_3 != a1_3) = false := bne_eq_false_iff_eq.mpr c6
     clear c6
     obtain rfl := Option.some.inj H
     go_enter Try.func174, Try.ntmps174
     go_wp2_with (first | ((with_reducible refine gate_dst (N := 2) rfl ?_); refine box_event ?hg (N := 2) ?hd (cs := #[.int .i64 a0_0, .int .i64 a0_1, .int .i64 a0_2, .int .i64 a0_3]) (t := 129) ?hr ?_; (case hd => rfl); (case hg => rfl); (case hr => first | (go_simp; done) | (go_simp; rfl)); intro gb994 hg w7 hbox hb; have n0_ := Aside0.mk (below_step bl_ hb); have n1_ := Aside0.mk (hbox); have n2_ := Aside0.mk ((hz_ : w.heap.size ≤ gb994)); have n3_ := Aside0.mk ((hz_ : w.heap.size ≤ gb994)); clear HB; have HB := n0_; have BK994 := n1_; have GW994 := n2_; have GE994 := n3_; clear n0_ n1_ n2_ n3_; clear hb hbox hg) | ((with_reducible refine gate_dst (N := 3) rfl ?_); refine box_event ?hg (N := 3) ?hd (cs := #[.int .i64 a1_0, .int .i64 a1_1, .int .i64 a1_2, .int .i64 a1_3]) (t := 129) ?hr ?_; (case hd => rfl); (case hg => rfl); (case hr => first | (go_simp; done) | (go_simp; rfl)); intro gb995 hg w8 hbox hb; have n0_ := Aside0.mk (blk_below (g := gb994) (o := .cells #[.int .i64 a0_0, .int .i64 a0_1, .int .i64 a0_2, .int .i64 a0_3] 129 (0, 0)) (bk_ BK994.out) hb); have n1_ := Aside0.mk (below_step bl_ hb); have n2_ := Aside0.mk (hbox); have n3_ := Aside0.mk ((hz_ : w.heap.size ≤ gb995)); have n4_ := Aside0.mk ((hz_ : w.heap.size ≤ gb995)); have n5_ := Aside0.mk ((by rw [hg]; exact Nat.ne_of_lt (blk_lt (g := gb994) (o := .cells #[.int .i64 a0_0, .int .i64 a0_1, .int .i64 a0_2, .int .i64 a0_3] 129 (0, 0)) (bk_ BK994.out)) : gb994 ≠ gb995)); have n6_ := Aside0.mk ((by rw [hg]; exact Nat.ne_of_gt (blk_lt (g := gb994) (o := .cells #[.int .i64 a0_0, .int .i64 a0_1, .int .i64 a0_2, .int .i64 a0_3] 129 (0, 0)) (bk_ BK994.out)) : gb995 ≠ gb994)); clear BK994; clear HB; have BK994 := n0_; have HB := n1_; have BK995 := n2_; have GW995 := n3_; have GE995 := n4_; have NB994_995 := n5_; have NB995_994 := n6_; clear n0_ n1_ n2_ n3_ n4_ n5_ n6_; clear hb hbox hg; have hnb9 := NB994_995.out; have hnc9 := NB995_994.out; have hcz10_0 : w8.cell? ⟨gb994, 0, none⟩ = some (.int .i64 a0_0) := (blk_cell BK994.out 0).trans rfl; have hcz10_1 : w8.cell? ⟨gb994, 1, none⟩ = some (.int .i64 a0_1) := (blk_cell BK994.out 1).trans rfl; have hcz10_2 : w8.cell? ⟨gb994, 2, none⟩ = some (.int .i64 a0_2) := (blk_cell BK994.out 2).trans rfl; have hcz10_3 : w8.cell? ⟨gb994, 3, none⟩ = some (.int .i64 a0_3) := (blk_cell BK994.out 3).trans rfl; have hfz10_0 := blk_frozen BK994.out 0; have hfz10_1 := blk_frozen BK994.out 1; have hfz10_2 := blk_frozen BK994.out 2; have hfz10_3 := blk_frozen BK994.out 3; have hcz11_0 : w8.cell? ⟨gb995, 0, none⟩ = some (.int .i64 a1_0) := (blk_cell BK995.out 0).trans rfl; have hcz11_1 : w8.cell? ⟨gb995, 1, none⟩ = some (.int .i64 a1_1) := (blk_cell BK995.out 1).trans rfl; have hcz11_2 : w8.cell? ⟨gb995, 2, none⟩ = some (.int .i64 a1_2) := (blk_cell BK995.out 2).trans rfl; have hcz11_3 : w8.cell? ⟨gb995, 3, none⟩ = some (.int .i64 a1_3) := (blk_cell BK995.out 3).trans rfl; have hfz11_0 := blk_frozen BK995.out 0; have hfz11_1 := blk_frozen BK995.out 1; have hfz11_2 := blk_frozen BK995.out 2; have hfz11_3 := blk_frozen BK995.out 3))
     go_ret
     exact ⟨by first | rfl | (simp [errW_none, errW_some] <;> rfl) | (simp [*, errW_none, errW_some] <;> rfl) | exact False.elim (Bool.noConfusion ((decide_eq_true (of_eq_true (by assumption))).symm.trans (by assumption))), bl_⟩
    ·rw [if_neg c6] at H
     have c6b0 : (a0_3 == a1_3) = false := beq_eq_false_iff_ne.mpr c6
     have c6b1 : (a0_3 != a1_3) = true := bne_iff_ne.mpr c6
     obtain rfl := Option.some.inj H
     go_enter Try.func174, Try.ntmps174
     go_wp2_with (first | ((with_reducible refine gate_dst (N := 2) rfl ?_); refine box_event ?hg (N := 2) ?hd (cs := #[.int .i64 a0_0, .int .i64 a0_1, .int .i64 a0_2, .int .i64 a0_3]) (t := 129) ?hr ?_; (case hd => rfl); (case hg => rfl); (case hr => first | (go_simp; done) | (go_simp; rfl)); intro gb994 hg w12 hbox hb; have n0_ := Aside0.mk (below_step bl_ hb); have n1_ := Aside0.mk (hbox); have n2_ := Aside0.mk ((hz_ : w.heap.size ≤ gb994)); have n3_ := Aside0.mk ((hz_ : w.heap.size ≤ gb994)); clear HB; have HB := n0_; have BK994 := n1_; have GW994 := n2_; have GE994 := n3_; clear n0_ n1_ n2_ n3_; clear hb hbox hg) | ((with_reducible refine gate_dst (N := 3) rfl ?_); refine box_event ?hg (N := 3) ?hd (cs := #[.int .i64 a1_0, .int .i64 a1_1, .int .i64 a1_2, .int .i64 a1_3]) (t := 129) ?hr ?_; (case hd => rfl); (case hg => rfl); (case hr => first | (go_simp; done) | (go_simp; rfl)); intro gb995 hg w13 hbox hb; have n0_ := Aside0.mk (blk_below (g := gb994) (o := .cells #[.int .i64 a0_0, .int .i64 a0_1, .int .i64 a0_2, .int .i64 a0_3] 129 (0, 0)) (bk_ BK994.out) hb); have n1_ := Aside0.mk (below_step bl_ hb); have n2_ := Aside0.mk (hbox); have n3_ := Aside0.mk ((hz_ : w.heap.size ≤ gb995)); have n4_ := Aside0.mk ((hz_ : w.heap.size ≤ gb995)); have n5_ := Aside0.mk ((by rw [hg]; exact Nat.ne_of_lt (blk_lt (g := gb994) (o := .cells #[.int .i64 a0_0, .int .i64 a0_1, .int .i64 a0_2, .int .i64 a0_3] 129 (0, 0)) (bk_ BK994.out)) : gb994 ≠ gb995)); have n6_ := Aside0.mk ((by rw [hg]; exact Nat.ne_of_gt (blk_lt (g := gb994) (o := .cells #[.int .i64 a0_0, .int .i64 a0_1, .int .i64 a0_2, .int .i64 a0_3] 129 (0, 0)) (bk_ BK994.out)) : gb995 ≠ gb994)); clear BK994; clear HB; have BK994 := n0_; have HB := n1_; have BK995 := n2_; have GW995 := n3_; have GE995 := n4_; have NB994_995 := n5_; have NB995_994 := n6_; clear n0_ n1_ n2_ n3_ n4_ n5_ n6_; clear hb hbox hg; have hnb14 := NB994_995.out; have hnc14 := NB995_994.out; have hcz15_0 : w13.cell? ⟨gb994, 0, none⟩ = some (.int .i64 a0_0) := (blk_cell BK994.out 0).trans rfl; have hcz15_1 : w13.cell? ⟨gb994, 1, none⟩ = some (.int .i64 a0_1) := (blk_cell BK994.out 1).trans rfl; have hcz15_2 : w13.cell? ⟨gb994, 2, none⟩ = some (.int .i64 a0_2) := (blk_cell BK994.out 2).trans rfl; have hcz15_3 : w13.cell? ⟨gb994, 3, none⟩ = some (.int .i64 a0_3) := (blk_cell BK994.out 3).trans rfl; have hfz15_0 := blk_frozen BK994.out 0; have hfz15_1 := blk_frozen BK994.out 1; have hfz15_2 := blk_frozen BK994.out 2; have hfz15_3 := blk_frozen BK994.out 3; have hcz16_0 : w13.cell? ⟨gb995, 0, none⟩ = some (.int .i64 a1_0) := (blk_cell BK995.out 0).trans rfl; have hcz16_1 : w13.cell? ⟨gb995, 1, none⟩ = some (.int .i64 a1_1) := (blk_cell BK995.out 1).trans rfl; have hcz16_2 : w13.cell? ⟨gb995, 2, none⟩ = some (.int .i64 a1_2) := (blk_cell BK995.out 2).trans rfl; have hcz16_3 : w13.cell? ⟨gb995, 3, none⟩ = some (.int .i64 a1_3) := (blk_cell BK995.out 3).trans rfl; have hfz16_0 := blk_frozen BK995.out 0; have hfz16_1 := blk_frozen BK995.out 1; have hfz16_2 := blk_frozen BK995.out 2; have hfz16_3 := blk_frozen BK995.out 3))
     go_ret
     exact ⟨by first | rfl | (simp [errW_none, errW_some] <;> rfl) | (simp [*, errW_none, errW_some] <;> rfl) | exact False.elim (Bool.noConfusion ((decide_eq_true (of_eq_true (by assumption))).symm.trans (by assumption))), bl_⟩
   ·rw [if_neg c5] at H
    have c5b0 : (a0_2 == a1_2) = false := beq_eq_false_iff_ne.mpr c5
    have c5b1 : (a0_2 != a1_2) = true := bne_iff_ne.mpr c5
    obtain rfl := Option.some.inj H
    go_enter Try.func174, Try.ntmps174
    go_wp2_with (first | ((with_reducible refine gate_dst (N := 2) rfl ?_); refine box_event ?hg (N := 2) ?hd (cs := #[.int .i64 a0_0, .int .i64 a0_1, .int .i64 a0_2, .int .i64 a0_3]) (t := 129) ?hr ?_; (case hd => rfl); (case hg => rfl); (case hr => first | (go_simp; done) | (go_simp; rfl)); intro gb994 hg w17 hbox hb; have n0_ := Aside0.mk (below_step bl_ hb); have n1_ := Aside0.mk (hbox); have n2_ := Aside0.mk ((hz_ : w.heap.size ≤ gb994)); have n3_ := Aside0.mk ((hz_ : w.heap.size ≤ gb994)); clear HB; have HB := n0_; have BK994 := n1_; have GW994 := n2_; have GE994 := n3_; clear n0_ n1_ n2_ n3_; clear hb hbox hg) | ((with_reducible refine gate_dst (N := 3) rfl ?_); refine box_event ?hg (N := 3) ?hd (cs := #[.int .i64 a1_0, .int .i64 a1_1, .int .i64 a1_2, .int .i64 a1_3]) (t := 129) ?hr ?_; (case hd => rfl); (case hg => rfl); (case hr => first | (go_simp; done) | (go_simp; rfl)); intro gb995 hg w18 hbox hb; have n0_ := Aside0.mk (blk_below (g := gb994) (o := .cells #[.int .i64 a0_0, .int .i64 a0_1, .int .i64 a0_2, .int .i64 a0_3] 129 (0, 0)) (bk_ BK994.out) hb); have n1_ := Aside0.mk (below_step bl_ hb); have n2_ := Aside0.mk (hbox); have n3_ := Aside0.mk ((hz_ : w.heap.size ≤ gb995)); have n4_ := Aside0.mk ((hz_ : w.heap.size ≤ gb995)); have n5_ := Aside0.mk ((by rw [hg]; exact Nat.ne_of_lt (blk_lt (g := gb994) (o := .cells #[.int .i64 a0_0, .int .i64 a0_1, .int .i64 a0_2, .int .i64 a0_3] 129 (0, 0)) (bk_ BK994.out)) : gb994 ≠ gb995)); have n6_ := Aside0.mk ((by rw [hg]; exact Nat.ne_of_gt (blk_lt (g := gb994) (o := .cells #[.int .i64 a0_0, .int .i64 a0_1, .int .i64 a0_2, .int .i64 a0_3] 129 (0, 0)) (bk_ BK994.out)) : gb995 ≠ gb994)); clear BK994; clear HB; have BK994 := n0_; have HB := n1_; have BK995 := n2_; have GW995 := n3_; have GE995 := n4_; have NB994_995 := n5_; have NB995_994 := n6_; clear n0_ n1_ n2_ n3_ n4_ n5_ n6_; clear hb hbox hg; have hnb19 := NB994_995.out; have hnc19 := NB995_994.out; have hcz20_0 : w18.cell? ⟨gb994, 0, none⟩ = some (.int .i64 a0_0) := (blk_cell BK994.out 0).trans rfl; have hcz20_1 : w18.cell? ⟨gb994, 1, none⟩ = some (.int .i64 a0_1) := (blk_cell BK994.out 1).trans rfl; have hcz20_2 : w18.cell? ⟨gb994, 2, none⟩ = some (.int .i64 a0_2) := (blk_cell BK994.out 2).trans rfl; have hcz20_3 : w18.cell? ⟨gb994, 3, none⟩ = some (.int .i64 a0_3) := (blk_cell BK994.out 3).trans rfl; have hfz20_0 := blk_frozen BK994.out 0; have hfz20_1 := blk_frozen BK994.out 1; have hfz20_2 := blk_frozen BK994.out 2; have hfz20_3 := blk_frozen BK994.out 3; have hcz21_0 : w18.cell? ⟨gb995, 0, none⟩ = some (.int .i64 a1_0) := (blk_cell BK995.out 0).trans rfl; have hcz21_1 : w18.cell? ⟨gb995, 1, none⟩ = some (.int .i64 a1_1) := (blk_cell BK995.out 1).trans rfl; have hcz21_2 : w18.cell? ⟨gb995, 2, none⟩ = some (.int .i64 a1_2) := (blk_cell BK995.out 2).trans rfl; have hcz21_3 : w18.cell? ⟨gb995, 3, none⟩ = some (.int .i64 a1_3) := (blk_cell BK995.out 3).trans rfl; have hfz21_0 := blk_frozen BK995.out 0; have hfz21_1 := blk_frozen BK995.out 1; have hfz21_2 := blk_frozen BK995.out 2; have hfz21_3 := blk_frozen BK995.out 3))
    go_ret
    exact ⟨by first | rfl | (simp [errW_none, errW_some] <;> rfl) | (simp [*, errW_none, errW_some] <;> rfl) | exact False.elim (Bool.noConfusion ((decide_eq_true (of_eq_true (by assumption))).symm.trans (by assumption))), bl_⟩
  ·rw [if_neg c4] at H
   have c4b0 : (a0_1 == a1_1) = false := beq_eq_false_iff_ne.mpr c4
   have c4b1 : (a0_1 != a1_1) = true := bne_iff_ne.mpr c4
   obtain rfl := Option.some.inj H
   go_enter Try.func174, Try.ntmps174
   go_wp2_with (first | ((with_reducible refine gate_dst (N := 2) rfl ?_); refine box_event ?hg (N := 2) ?hd (cs := #[.int .i64 a0_0, .int .i64 a0_1, .int .i64 a0_2, .int .i64 a0_3]) (t := 129) ?hr ?_; (case hd => rfl); (case hg => rfl); (case hr => first | (go_simp; done) | (go_simp; rfl)); intro gb994 hg w22 hbox hb; have n0_ := Aside0.mk (below_step bl_ hb); have n1_ := Aside0.mk (hbox); have n2_ := Aside0.mk ((hz_ : w.heap.size ≤ gb994)); have n3_ := Aside0.mk ((hz_ : w.heap.size ≤ gb994)); clear HB; have HB := n0_; have BK994 := n1_; have GW994 := n2_; have GE994 := n3_; clear n0_ n1_ n2_ n3_; clear hb hbox hg) | ((with_reducible refine gate_dst (N := 3) rfl ?_); refine box_event ?hg (N := 3) ?hd (cs := #[.int .i64 a1_0, .int .i64 a1_1, .int .i64 a1_2, .int .i64 a1_3]) (t := 129) ?hr ?_; (case hd => rfl); (case hg => rfl); (case hr => first | (go_simp; done) | (go_simp; rfl)); intro gb995 hg w23 hbox hb; have n0_ := Aside0.mk (blk_below (g := gb994) (o := .cells #[.int .i64 a0_0, .int .i64 a0_1, .int .i64 a0_2, .int .i64 a0_3] 129 (0, 0)) (bk_ BK994.out) hb); have n1_ := Aside0.mk (below_step bl_ hb); have n2_ := Aside0.mk (hbox); have n3_ := Aside0.mk ((hz_ : w.heap.size ≤ gb995)); have n4_ := Aside0.mk ((hz_ : w.heap.size ≤ gb995)); have n5_ := Aside0.mk ((by rw [hg]; exact Nat.ne_of_lt (blk_lt (g := gb994) (o := .cells #[.int .i64 a0_0, .int .i64 a0_1, .int .i64 a0_2, .int .i64 a0_3] 129 (0, 0)) (bk_ BK994.out)) : gb994 ≠ gb995)); have n6_ := Aside0.mk ((by rw [hg]; exact Nat.ne_of_gt (blk_lt (g := gb994) (o := .cells #[.int .i64 a0_0, .int .i64 a0_1, .int .i64 a0_2, .int .i64 a0_3] 129 (0, 0)) (bk_ BK994.out)) : gb995 ≠ gb994)); clear BK994; clear HB; have BK994 := n0_; have HB := n1_; have BK995 := n2_; have GW995 := n3_; have GE995 := n4_; have NB994_995 := n5_; have NB995_994 := n6_; clear n0_ n1_ n2_ n3_ n4_ n5_ n6_; clear hb hbox hg; have hnb24 := NB994_995.out; have hnc24 := NB995_994.out; have hcz25_0 : w23.cell? ⟨gb994, 0, none⟩ = some (.int .i64 a0_0) := (blk_cell BK994.out 0).trans rfl; have hcz25_1 : w23.cell? ⟨gb994, 1, none⟩ = some (.int .i64 a0_1) := (blk_cell BK994.out 1).trans rfl; have hcz25_2 : w23.cell? ⟨gb994, 2, none⟩ = some (.int .i64 a0_2) := (blk_cell BK994.out 2).trans rfl; have hcz25_3 : w23.cell? ⟨gb994, 3, none⟩ = some (.int .i64 a0_3) := (blk_cell BK994.out 3).trans rfl; have hfz25_0 := blk_frozen BK994.out 0; have hfz25_1 := blk_frozen BK994.out 1; have hfz25_2 := blk_frozen BK994.out 2; have hfz25_3 := blk_frozen BK994.out 3; have hcz26_0 : w23.cell? ⟨gb995, 0, none⟩ = some (.int .i64 a1_0) := (blk_cell BK995.out 0).trans rfl; have hcz26_1 : w23.cell? ⟨gb995, 1, none⟩ = some (.int .i64 a1_1) := (blk_cell BK995.out 1).trans rfl; have hcz26_2 : w23.cell? ⟨gb995, 2, none⟩ = some (.int .i64 a1_2) := (blk_cell BK995.out 2).trans rfl; have hcz26_3 : w23.cell? ⟨gb995, 3, none⟩ = some (.int .i64 a1_3) := (blk_cell BK995.out 3).trans rfl; have hfz26_0 := blk_frozen BK995.out 0; have hfz26_1 := blk_frozen BK995.out 1; have hfz26_2 := blk_frozen BK995.out 2; have hfz26_3 := blk_frozen BK995.out 3))
   go_ret
   exact ⟨by first | rfl | (simp [errW_none, errW_some] <;> rfl) | (simp [*, errW_none, errW_some] <;> rfl) | exact False.elim (Bool.noConfusion ((decide_eq_true (of_eq_true (by assumption))).symm.trans (by assumption))), bl_⟩
 ·rw [if_neg c3] at H
  have c3b0 : (a0_0 == a1_0) = false := beq_eq_false_iff_ne.mpr c3
  have c3b1 : (a0_0 != a1_0) = true := bne_iff_ne.mpr c3
  obtain rfl := Option.some.inj H
  go_enter Try.func174, Try.ntmps174
  go_wp2_with (first | ((with_reducible refine gate_dst (N := 2) rfl ?_); refine box_event ?hg (N := 2) ?hd (cs := #[.int .i64 a0_0, .int .i64 a0_1, .int .i64 a0_2, .int .i64 a0_3]) (t := 129) ?hr ?_; (case hd => rfl); (case hg => rfl); (case hr => first | (go_simp; done) | (go_simp; rfl)); intro gb994 hg w27 hbox hb; have n0_ := Aside0.mk (below_step bl_ hb); have n1_ := Aside0.mk (hbox); have n2_ := Aside0.mk ((hz_ : w.heap.size ≤ gb994)); have n3_ := Aside0.mk ((hz_ : w.heap.size ≤ gb994)); clear HB; have HB := n0_; have BK994 := n1_; have GW994 := n2_; have GE994 := n3_; clear n0_ n1_ n2_ n3_; clear hb hbox hg) | ((with_reducible refine gate_dst (N := 3) rfl ?_); refine box_event ?hg (N := 3) ?hd (cs := #[.int .i64 a1_0, .int .i64 a1_1, .int .i64 a1_2, .int .i64 a1_3]) (t := 129) ?hr ?_; (case hd => rfl); (case hg => rfl); (case hr => first | (go_simp; done) | (go_simp; rfl)); intro gb995 hg w28 hbox hb; have n0_ := Aside0.mk (blk_below (g := gb994) (o := .cells #[.int .i64 a0_0, .int .i64 a0_1, .int .i64 a0_2, .int .i64 a0_3] 129 (0, 0)) (bk_ BK994.out) hb); have n1_ := Aside0.mk (below_step bl_ hb); have n2_ := Aside0.mk (hbox); have n3_ := Aside0.mk ((hz_ : w.heap.size ≤ gb995)); have n4_ := Aside0.mk ((hz_ : w.heap.size ≤ gb995)); have n5_ := Aside0.mk ((by rw [hg]; exact Nat.ne_of_lt (blk_lt (g := gb994) (o := .cells #[.int .i64 a0_0, .int .i64 a0_1, .int .i64 a0_2, .int .i64 a0_3] 129 (0, 0)) (bk_ BK994.out)) : gb994 ≠ gb995)); have n6_ := Aside0.mk ((by rw [hg]; exact Nat.ne_of_gt (blk_lt (g := gb994) (o := .cells #[.int .i64 a0_0, .int .i64 a0_1, .int .i64 a0_2, .int .i64 a0_3] 129 (0, 0)) (bk_ BK994.out)) : gb995 ≠ gb994)); clear BK994; clear HB; have BK994 := n0_; have HB := n1_; have BK995 := n2_; have GW995 := n3_; have GE995 := n4_; have NB994_995 := n5_; have NB995_994 := n6_; clear n0_ n1_ n2_ n3_ n4_ n5_ n6_; clear hb hbox hg; have hnb29 := NB994_995.out; have hnc29 := NB995_994.out; have hcz30_0 : w28.cell? ⟨gb994, 0, none⟩ = some (.int .i64 a0_0) := (blk_cell BK994.out 0).trans rfl; have hcz30_1 : w28.cell? ⟨gb994, 1, none⟩ = some (.int .i64 a0_1) := (blk_cell BK994.out 1).trans rfl; have hcz30_2 : w28.cell? ⟨gb994, 2, none⟩ = some (.int .i64 a0_2) := (blk_cell BK994.out 2).trans rfl; have hcz30_3 : w28.cell? ⟨gb994, 3, none⟩ = some (.int .i64 a0_3) := (blk_cell BK994.out 3).trans rfl; have hfz30_0 := blk_frozen BK994.out 0; have hfz30_1 := blk_frozen BK994.out 1; have hfz30_2 := blk_frozen BK994.out 2; have hfz30_3 := blk_frozen BK994.out 3; have hcz31_0 : w28.cell? ⟨gb995, 0, none⟩ = some (.int .i64 a1_0) := (blk_cell BK995.out 0).trans rfl; have hcz31_1 : w28.cell? ⟨gb995, 1, none⟩ = some (.int .i64 a1_1) := (blk_cell BK995.out 1).trans rfl; have hcz31_2 : w28.cell? ⟨gb995, 2, none⟩ = some (.int .i64 a1_2) := (blk_cell BK995.out 2).trans rfl; have hcz31_3 : w28.cell? ⟨gb995, 3, none⟩ = some (.int .i64 a1_3) := (blk_cell BK995.out 3).trans rfl; have hfz31_0 := blk_frozen BK995.out 0; have hfz31_1 := blk_frozen BK995.out 1; have hfz31_2 := blk_frozen BK995.out 2; have hfz31_3 := blk_frozen BK995.out 3))
  go_ret
  exact ⟨by first | rfl | (simp [errW_none, errW_some] <;> rfl) | (simp [*, errW_none, errW_some] <;> rfl) | exact False.elim (Bool.noConfusion ((decide_eq_true (of_eq_true (by assumption))).symm.trans (by assumption))), bl_⟩


/-! ### laws_eqEntry: function 125 -/
def laws_eqEntry.f (a0_0 : Int) (a0_1 : Int) (a0_2 : Int) (a0_3 : Int) (a0_4 : Int) (a0_5 : Int) (a1_0 : Int) (a1_1 : Int) (a1_2 : Int) (a1_3 : Int) (a1_4 : Int) (a1_5 : Int) : Option (Bool) := if a0_0 = a1_0 then (if a0_1 = a1_1 then ((laws_eqItem.f a0_2 a0_3 a0_4 a0_5 a1_2 a1_3 a1_4 a1_5).bind fun t998 => (if t998 = true then (some true) else (some false))) else (some false)) else (some false)
set_option maxHeartbeats 8000000 in
set_option maxRecDepth 100000 in
theorem laws_eqEntry.calls (a0_0 : Int) (a0_1 : Int) (a0_2 : Int) (a0_3 : Int) (a0_4 : Int) (a0_5 : Int) (a1_0 : Int) (a1_1 : Int) (a1_2 : Int) (a1_3 : Int) (a1_4 : Int) (a1_5 : Int) (r : Bool) (w : World) (h : laws_eqEntry.f a0_0 a0_1 a0_2 a0_3 a0_4 a0_5 a1_0 a1_1 a1_2 a1_3 a1_4 a1_5 = some r) :
 Calls Try.prog 125 #[.agg #[.int .i64 a0_0, .int .i64 a0_1, .int .i64 a0_2, .int .i64 a0_3, .int .i64 a0_4, .int .i64 a0_5], .agg #[.int .i64 a1_0, .int .i64 a1_1, .int .i64 a1_2, .int .i64 a1_3, .int .i64 a1_4, .int .i64 a1_5]] w fun e w' => e = .returned (.bool r) ∧ Below w.heap.size w w' := by
 have hu131 := Try.underlying131
 have hu129 := Try.underlying129
 have HB := Aside0.mk (Below.refl w.heap.size w)
 have H : (if a0_0 = a1_0 then (if a0_1 = a1_1 then ((laws_eqItem.f a0_2 a0_3 a0_4 a0_5 a1_2 a1_3 a1_4 a1_5).bind fun t998 => (if t998 = true then (some true) else (some false))) else (some false)) else (some false)) = some r := h
 clear h
 by_cases c3 : a0_0 = a1_0
 ·rw [if_pos c3] at H
  have c3b0 : (a0_0 == a1_0) = true := beq_iff_eq.mpr c3
  have c3b1 : (a0_0 != a1_0) = false := bne_eq_false_iff_eq.mpr c3
  clear c3
  by_cases c4 : a0_1 = a1_1
  ·rw [if_pos c4] at H
   have c4b0 : (a0_1 == a1_1) = true := beq_iff_eq.mpr c4
   have c4b1 : (a0_1 != a1_1) = false := bne_eq_false_iff_eq.mpr c4
   clear c4
   replace H := Option.bind_eq_some_iff.mp H
   obtain ⟨t998, A50, H⟩ := H
   try dsimp only at H
   have A5 := Aside0.mk A50
   clear A50
   by_cases c6 : t998 = true
   ·subst c6
    rw [if_pos rfl] at H
    obtain rfl := Option.some.inj H
    go_enter Try.func125, Try.ntmps125
    go_wp2_with (first | ((with_reducible refine gate_dst (N := 2) rfl ?_); refine box_event ?hg (N := 2) ?hd (cs := #[.int .i64 a0_0, .int .i64 a0_1, .int .i64 a0_2, .int .i64 a0_3, .int .i64 a0_4, .int .i64 a0_5]) (t := 131) ?hr ?_; (case hd => rfl); (case hg => rfl); (case hr => first | (go_simp; done) | (go_simp; rfl)); intro gb996 hg w7 hbox hb; have n0_ := Aside0.mk (below_step bl_ hb); have n1_ := Aside0.mk (hbox); have n2_ := Aside0.mk ((hz_ : w.heap.size ≤ gb996)); have n3_ := Aside0.mk ((hz_ : w.heap.size ≤ gb996)); clear HB; have HB := n0_; have BK996 := n1_; have GW996 := n2_; have GE996 := n3_; clear n0_ n1_ n2_ n3_; clear hb hbox hg) | ((with_reducible refine gate_dst (N := 3) rfl ?_); refine box_event ?hg (N := 3) ?hd (cs := #[.int .i64 a1_0, .int .i64 a1_1, .int .i64 a1_2, .int .i64 a1_3, .int .i64 a1_4, .int .i64 a1_5]) (t := 131) ?hr ?_; (case hd => rfl); (case hg => rfl); (case hr => first | (go_simp; done) | (go_simp; rfl)); intro gb997 hg w8 hbox hb; have n0_ := Aside0.mk (blk_below (g := gb996) (o := .cells #[.int .i64 a0_0, .int .i64 a0_1, .int .i64 a0_2, .int .i64 a0_3, .int .i64 a0_4, .int .i64 a0_5] 131 (0, 0)) (bk_ BK996.out) hb); have n1_ := Aside0.mk (below_step bl_ hb); have n2_ := Aside0.mk (hbox); have n3_ := Aside0.mk ((hz_ : w.heap.size ≤ gb997)); have n4_ := Aside0.mk ((hz_ : w.heap.size ≤ gb997)); have n5_ := Aside0.mk ((by rw [hg]; exact Nat.ne_of_lt (blk_lt (g := gb996) (o := .cells #[.int .i64 a0_0, .int .i64 a0_1, .int .i64 a0_2, .int .i64 a0_3, .int .i64 a0_4, .int .i64 a0_5] 131 (0, 0)) (bk_ BK996.out)) : gb996 ≠ gb997)); have n6_ := Aside0.mk ((by rw [hg]; exact Nat.ne_of_gt (blk_lt (g := gb996) (o := .cells #[.int .i64 a0_0, .int .i64 a0_1, .int .i64 a0_2, .int .i64 a0_3, .int .i64 a0_4, .int .i64 a0_5] 131 (0, 0)) (bk_ BK996.out)) : gb997 ≠ gb996)); clear BK996; clear HB; have BK996 := n0_; have HB := n1_; have BK997 := n2_; have GW997 := n3_; have GE997 := n4_; have NB996_997 := n5_; have NB997_996 := n6_; clear n0_ n1_ n2_ n3_ n4_ n5_ n6_; clear hb hbox hg; have hnb9 := NB996_997.out; have hnc9 := NB997_996.out; have hcz10_0 : w8.cell? ⟨gb996, 0, none⟩ = some (.int .i64 a0_0) := (blk_cell BK996.out 0).trans rfl; have hcz10_1 : w8.cell? ⟨gb996, 1, none⟩ = some (.int .i64 a0_1) := (blk_cell BK996.out 1).trans rfl; have hcz10_2 : w8.cell? ⟨gb996, 2, none⟩ = some (.int .i64 a0_2) := (blk_cell BK996.out 2).trans rfl; have hcz10_3 : w8.cell? ⟨gb996, 3, none⟩ = some (.int .i64 a0_3) := (blk_cell BK996.out 3).trans rfl; have hcz10_4 : w8.cell? ⟨gb996, 4, none⟩ = some (.int .i64 a0_4) := (blk_cell BK996.out 4).trans rfl; have hcz10_5 : w8.cell? ⟨gb996, 5, none⟩ = some (.int .i64 a0_5) := (blk_cell BK996.out 5).trans rfl; have hfz10_0 := blk_frozen BK996.out 0; have hfz10_1 := blk_frozen BK996.out 1; have hfz10_2 := blk_frozen BK996.out 2; have hfz10_3 := blk_frozen BK996.out 3; have hfz10_4 := blk_frozen BK996.out 4; have hfz10_5 := blk_frozen BK996.out 5; have hcz11_0 : w8.cell? ⟨gb997, 0, none⟩ = some (.int .i64 a1_0) := (blk_cell BK997.out 0).trans rfl; have hcz11_1 : w8.cell? ⟨gb997, 1, none⟩ = some (.int .i64 a1_1) := (blk_cell BK997.out 1).trans rfl; have hcz11_2 : w8.cell? ⟨gb997, 2, none⟩ = some (.int .i64 a1_2) := (blk_cell BK997.out 2).trans rfl; have hcz11_3 : w8.cell? ⟨gb997, 3, none⟩ = some (.int .i64 a1_3) := (blk_cell BK997.out 3).trans rfl; have hcz11_4 : w8.cell? ⟨gb997, 4, none⟩ = some (.int .i64 a1_4) := (blk_cell BK997.out 4).trans rfl; have hcz11_5 : w8.cell? ⟨gb997, 5, none⟩ = some (.int .i64 a1_5) := (blk_cell BK997.out 5).trans rfl; have hfz11_0 := blk_frozen BK997.out 0; have hfz11_1 := blk_frozen BK997.out 1; have hfz11_2 := blk_frozen BK997.out 2; have hfz11_3 := blk_frozen BK997.out 3; have hfz11_4 := blk_frozen BK997.out 4; have hfz11_5 := blk_frozen BK997.out 5) | ((with_reducible refine gate_callee (f := 174) rfl ?_); refine goesL_ (some 19) rfl rfl Try.func174 (by kernel_rfl) rfl #[.agg #[.int .i64 a0_2, .int .i64 a0_3, .int .i64 a0_4, .int .i64 a0_5], .agg #[.int .i64 a1_2, .int .i64 a1_3, .int .i64 a1_4, .int .i64 a1_5]] rfl lm_ ?_; (with_reducible refine (laws_eqItem.calls a0_2 a0_3 a0_4 a0_5 a1_2 a1_3 a1_4 a1_5 true _ A5.out).mono ?_); rintro e w12 ⟨rfl, hb⟩; refine ⟨_, rfl, ?_⟩; have n0_ := Aside0.mk (blk_below (g := gb996) (o := .cells #[.int .i64 a0_0, .int .i64 a0_1, .int .i64 a0_2, .int .i64 a0_3, .int .i64 a0_4, .int .i64 a0_5] 131 (0, 0)) (bk_ BK996.out) hb); have n1_ := Aside0.mk (blk_below (g := gb997) (o := .cells #[.int .i64 a1_0, .int .i64 a1_1, .int .i64 a1_2, .int .i64 a1_3, .int .i64 a1_4, .int .i64 a1_5] 131 (0, 0)) (bk_ BK997.out) hb); have n2_ := Aside0.mk (below_step bl_ hb); clear BK996; clear BK997; clear HB; have BK996 := n0_; have BK997 := n1_; have HB := n2_; clear n0_ n1_ n2_; (try clear hb); (try clear hb2); (try clear hk); (try clear hi)))
    go_ret
    exact ⟨by first | rfl | (simp [errW_none, errW_some] <;> rfl) | (simp [*, errW_none, errW_some] <;> rfl) | exact False.elim (Bool.noConfusion ((decide_eq_true (of_eq_true (by assumption))).symm.trans (by assumption))), bl_⟩
   ·replace c6 := Bool.eq_false_iff.mpr c6
    subst c6
    rw [if_neg (show ¬ (false = true) by decide)] at H
    obtain rfl := Option.some.inj H
    go_enter Try.func125, Try.ntmps125
    go_wp2_with (first | ((with_reducible refine gate_dst (N := 2) rfl ?_); refine box_event ?hg (N := 2) ?hd (cs := #[.int .i64 a0_0, .int .i64 a0_1, .int .i64 a0_2, .int .i64 a0_3, .int .i64 a0_4, .int .i64 a0_5]) (t := 131) ?hr ?_; (case hd => rfl); (case hg => rfl); (case hr => first | (go_simp; done) | (go_simp; rfl)); intro gb996 hg w13 hbox hb; have n0_ := Aside0.mk (below_step bl_ hb); have n1_ := Aside0.mk (hbox); have n2_ := Aside0.mk ((hz_ : w.heap.size ≤ gb996)); have n3_ := Aside0.mk ((hz_ : w.heap.size ≤ gb996)); clear HB; have HB := n0_; have BK996 := n1_; have GW996 := n2_; have GE996 := n3_; clear n0_ n1_ n2_ n3_; clear hb hbox hg) | ((with_reducible refine gate_dst (N := 3) rfl ?_); refine box_event ?hg (N := 3) ?hd (cs := #[.int .i64 a1_0, .int .i64 a1_1, .int .i64 a1_2, .int .i64 a1_3, .int .i64 a1_4, .int .i64 a1_5]) (t := 131) ?hr ?_; (case hd => rfl); (case hg => rfl); (case hr => first | (go_simp; done) | (go_simp; rfl)); intro gb997 hg w14 hbox hb; have n0_ := Aside0.mk (blk_below (g := gb996) (o := .cells #[.int .i64 a0_0, .int .i64 a0_1, .int .i64 a0_2, .int .i64 a0_3, .int .i64 a0_4, .int .i64 a0_5] 131 (0, 0)) (bk_ BK996.out) hb); have n1_ := Aside0.mk (below_step bl_ hb); have n2_ := Aside0.mk (hbox); have n3_ := Aside0.mk ((hz_ : w.heap.size ≤ gb997)); have n4_ := Aside0.mk ((hz_ : w.heap.size ≤ gb997)); have n5_ := Aside0.mk ((by rw [hg]; exact Nat.ne_of_lt (blk_lt (g := gb996) (o := .cells #[.int .i64 a0_0, .int .i64 a0_1, .int .i64 a0_2, .int .i64 a0_3, .int .i64 a0_4, .int .i64 a0_5] 131 (0, 0)) (bk_ BK996.out)) : gb996 ≠ gb997)); have n6_ := Aside0.mk ((by rw [hg]; exact Nat.ne_of_gt (blk_lt (g := gb996) (o := .cells #[.int .i64 a0_0, .int .i64 a0_1, .int .i64 a0_2, .int .i64 a0_3, .int .i64 a0_4, .int .i64 a0_5] 131 (0, 0)) (bk_ BK996.out)) : gb997 ≠ gb996)); clear BK996; clear HB; have BK996 := n0_; have HB := n1_; have BK997 := n2_; have GW997 := n3_; have GE997 := n4_; have NB996_997 := n5_; have NB997_996 := n6_; clear n0_ n1_ n2_ n3_ n4_ n5_ n6_; clear hb hbox hg; have hnb15 := NB996_997.out; have hnc15 := NB997_996.out; have hcz16_0 : w14.cell? ⟨gb996, 0, none⟩ = some (.int .i64 a0_0) := (blk_cell BK996.out 0).trans rfl; have hcz16_1 : w14.cell? ⟨gb996, 1, none⟩ = some (.int .i64 a0_1) := (blk_cell BK996.out 1).trans rfl; have hcz16_2 : w14.cell? ⟨gb996, 2, none⟩ = some (.int .i64 a0_2) := (blk_cell BK996.out 2).trans rfl; have hcz16_3 : w14.cell? ⟨gb996, 3, none⟩ = some (.int .i64 a0_3) := (blk_cell BK996.out 3).trans rfl; have hcz16_4 : w14.cell? ⟨gb996, 4, none⟩ = some (.int .i64 a0_4) := (blk_cell BK996.out 4).trans rfl; have hcz16_5 : w14.cell? ⟨gb996, 5, none⟩ = some (.int .i64 a0_5) := (blk_cell BK996.out 5).trans rfl; have hfz16_0 := blk_frozen BK996.out 0; have hfz16_1 := blk_frozen BK996.out 1; have hfz16_2 := blk_frozen BK996.out 2; have hfz16_3 := blk_frozen BK996.out 3; have hfz16_4 := blk_frozen BK996.out 4; have hfz16_5 := blk_frozen BK996.out 5; have hcz17_0 : w14.cell? ⟨gb997, 0, none⟩ = some (.int .i64 a1_0) := (blk_cell BK997.out 0).trans rfl; have hcz17_1 : w14.cell? ⟨gb997, 1, none⟩ = some (.int .i64 a1_1) := (blk_cell BK997.out 1).trans rfl; have hcz17_2 : w14.cell? ⟨gb997, 2, none⟩ = some (.int .i64 a1_2) := (blk_cell BK997.out 2).trans rfl; have hcz17_3 : w14.cell? ⟨gb997, 3, none⟩ = some (.int .i64 a1_3) := (blk_cell BK997.out 3).trans rfl; have hcz17_4 : w14.cell? ⟨gb997, 4, none⟩ = some (.int .i64 a1_4) := (blk_cell BK997.out 4).trans rfl; have hcz17_5 : w14.cell? ⟨gb997, 5, none⟩ = some (.int .i64 a1_5) := (blk_cell BK997.out 5).trans rfl; have hfz17_0 := blk_frozen BK997.out 0; have hfz17_1 := blk_frozen BK997.out 1; have hfz17_2 := blk_frozen BK997.out 2; have hfz17_3 := blk_frozen BK997.out 3; have hfz17_4 := blk_frozen BK997.out 4; have hfz17_5 := blk_frozen BK997.out 5) | ((with_reducible refine gate_callee (f := 174) rfl ?_); refine goesL_ (some 19) rfl rfl Try.func174 (by kernel_rfl) rfl #[.agg #[.int .i64 a0_2, .int .i64 a0_3, .int .i64 a0_4, .int .i64 a0_5], .agg #[.int .i64 a1_2, .int .i64 a1_3, .int .i64 a1_4, .int .i64 a1_5]] rfl lm_ ?_; (with_reducible refine (laws_eqItem.calls a0_2 a0_3 a0_4 a0_5 a1_2 a1_3 a1_4 a1_5 false _ A5.out).mono ?_); rintro e w18 ⟨rfl, hb⟩; refine ⟨_, rfl, ?_⟩; have n0_ := Aside0.mk (blk_below (g := gb996) (o := .cells #[.int .i64 a0_0, .int .i64 a0_1, .int .i64 a0_2, .int .i64 a0_3, .int .i64 a0_4, .int .i64 a0_5] 131 (0, 0)) (bk_ BK996.out) hb); have n1_ := Aside0.mk (blk_below (g := gb997) (o := .cells #[.int .i64 a1_0, .int .i64 a1_1, .int .i64 a1_2, .int .i64 a1_3, .int .i64 a1_4, .int .i64 a1_5] 131 (0, 0)) (bk_ BK997.out) hb); have n2_ := Aside0.mk (below_step bl_ hb); clear BK996; clear BK997; clear HB; have BK996 := n0_; have BK997 := n1_; have HB := n2_; clear n0_ n1_ n2_; (try clear hb); (try clear hb2); (try clear hk); (try clear hi)))
    go_ret
    exact ⟨by first | rfl | (simp [errW_none, errW_some] <;> rfl) | (simp [*, errW_none, errW_some] <;> rfl) | exact False.elim (Bool.noConfusion ((decide_eq_true (of_eq_true (by assumption))).symm.trans (by assumption))), bl_⟩
  ·rw [if_neg c4] at H
   have c4b0 : (a0_1 == a1_1) = false := beq_eq_false_iff_ne.mpr c4
   have c4b1 : (a0_1 != a1_1) = true := bne_iff_ne.mpr c4
   obtain rfl := Option.some.inj H
   go_enter Try.func125, Try.ntmps125
   go_wp2_with (first | ((with_reducible refine gate_dst (N := 2) rfl ?_); refine box_event ?hg (N := 2) ?hd (cs := #[.int .i64 a0_0, .int .i64 a0_1, .int .i64 a0_2, .int .i64 a0_3, .int .i64 a0_4, .int .i64 a0_5]) (t := 131) ?hr ?_; (case hd => rfl); (case hg => rfl); (case hr => first | (go_simp; done) | (go_simp; rfl)); intro gb996 hg w19 hbox hb; have n0_ := Aside0.mk (below_step bl_ hb); have n1_ := Aside0.mk (hbox); have n2_ := Aside0.mk ((hz_ : w.heap.size ≤ gb996)); have n3_ := Aside0.mk ((hz_ : w.heap.size ≤ gb996)); clear HB; have HB := n0_; have BK996 := n1_; have GW996 := n2_; have GE996 := n3_; clear n0_ n1_ n2_ n3_; clear hb hbox hg) | ((with_reducible refine gate_dst (N := 3) rfl ?_); refine box_event ?hg (N := 3) ?hd (cs := #[.int .i64 a1_0, .int .i64 a1_1, .int .i64 a1_2, .int .i64 a1_3, .int .i64 a1_4, .int .i64 a1_5]) (t := 131) ?hr ?_; (case hd => rfl); (case hg => rfl); (case hr => first | (go_simp; done) | (go_simp; rfl)); intro gb997 hg w20 hbox hb; have n0_ := Aside0.mk (blk_below (g := gb996) (o := .cells #[.int .i64 a0_0, .int .i64 a0_1, .int .i64 a0_2, .int .i64 a0_3, .int .i64 a0_4, .int .i64 a0_5] 131 (0, 0)) (bk_ BK996.out) hb); have n1_ := Aside0.mk (below_step bl_ hb); have n2_ := Aside0.mk (hbox); have n3_ := Aside0.mk ((hz_ : w.heap.size ≤ gb997)); have n4_ := Aside0.mk ((hz_ : w.heap.size ≤ gb997)); have n5_ := Aside0.mk ((by rw [hg]; exact Nat.ne_of_lt (blk_lt (g := gb996) (o := .cells #[.int .i64 a0_0, .int .i64 a0_1, .int .i64 a0_2, .int .i64 a0_3, .int .i64 a0_4, .int .i64 a0_5] 131 (0, 0)) (bk_ BK996.out)) : gb996 ≠ gb997)); have n6_ := Aside0.mk ((by rw [hg]; exact Nat.ne_of_gt (blk_lt (g := gb996) (o := .cells #[.int .i64 a0_0, .int .i64 a0_1, .int .i64 a0_2, .int .i64 a0_3, .int .i64 a0_4, .int .i64 a0_5] 131 (0, 0)) (bk_ BK996.out)) : gb997 ≠ gb996)); clear BK996; clear HB; have BK996 := n0_; have HB := n1_; have BK997 := n2_; have GW997 := n3_; have GE997 := n4_; have NB996_997 := n5_; have NB997_996 := n6_; clear n0_ n1_ n2_ n3_ n4_ n5_ n6_; clear hb hbox hg; have hnb21 := NB996_997.out; have hnc21 := NB997_996.out; have hcz22_0 : w20.cell? ⟨gb996, 0, none⟩ = some (.int .i64 a0_0) := (blk_cell BK996.out 0).trans rfl; have hcz22_1 : w20.cell? ⟨gb996, 1, none⟩ = some (.int .i64 a0_1) := (blk_cell BK996.out 1).trans rfl; have hcz22_2 : w20.cell? ⟨gb996, 2, none⟩ = some (.int .i64 a0_2) := (blk_cell BK996.out 2).trans rfl; have hcz22_3 : w20.cell? ⟨gb996, 3, none⟩ = some (.int .i64 a0_3) := (blk_cell BK996.out 3).trans rfl; have hcz22_4 : w20.cell? ⟨gb996, 4, none⟩ = some (.int .i64 a0_4) := (blk_cell BK996.out 4).trans rfl; have hcz22_5 : w20.cell? ⟨gb996, 5, none⟩ = some (.int .i64 a0_5) := (blk_cell BK996.out 5).trans rfl; have hfz22_0 := blk_frozen BK996.out 0; have hfz22_1 := blk_frozen BK996.out 1; have hfz22_2 := blk_frozen BK996.out 2; have hfz22_3 := blk_frozen BK996.out 3; have hfz22_4 := blk_frozen BK996.out 4; have hfz22_5 := blk_frozen BK996.out 5; have hcz23_0 : w20.cell? ⟨gb997, 0, none⟩ = some (.int .i64 a1_0) := (blk_cell BK997.out 0).trans rfl; have hcz23_1 : w20.cell? ⟨gb997, 1, none⟩ = some (.int .i64 a1_1) := (blk_cell BK997.out 1).trans rfl; have hcz23_2 : w20.cell? ⟨gb997, 2, none⟩ = some (.int .i64 a1_2) := (blk_cell BK997.out 2).trans rfl; have hcz23_3 : w20.cell? ⟨gb997, 3, none⟩ = some (.int .i64 a1_3) := (blk_cell BK997.out 3).trans rfl; have hcz23_4 : w20.cell? ⟨gb997, 4, none⟩ = some (.int .i64 a1_4) := (blk_cell BK997.out 4).trans rfl; have hcz23_5 : w20.cell? ⟨gb997, 5, none⟩ = some (.int .i64 a1_5) := (blk_cell BK997.out 5).trans rfl; have hfz23_0 := blk_frozen BK997.out 0; have hfz23_1 := blk_frozen BK997.out 1; have hfz23_2 := blk_frozen BK997.out 2; have hfz23_3 := blk_frozen BK997.out 3; have hfz23_4 := blk_frozen BK997.out 4; have hfz23_5 := blk_frozen BK997.out 5))
   go_ret
   exact ⟨by first | rfl | (simp [errW_none, errW_some] <;> rfl) | (simp [*, errW_none, errW_some] <;> rfl) | exact False.elim (Bool.noConfusion ((decide_eq_true (of_eq_true (by assumption))).symm.trans (by assumption))), bl_⟩
 ·rw [if_neg c3] at H
  have c3b0 : (a0_0 == a1_0) = false := beq_eq_false_iff_ne.mpr c3
  have c3b1 : (a0_0 != a1_0) = true := bne_iff_ne.mpr c3
  obtain rfl := Option.some.inj H
  go_enter Try.func125, Try.ntmps125
  go_wp2_with (first | ((with_reducible refine gate_dst (N := 2) rfl ?_); refine box_event ?hg (N := 2) ?hd (cs := #[.int .i64 a0_0, .int .i64 a0_1, .int .i64 a0_2, .int .i64 a0_3, .int .i64 a0_4, .int .i64 a0_5]) (t := 131) ?hr ?_; (case hd => rfl); (case hg => rfl); (case hr => first | (go_simp; done) | (go_simp; rfl)); intro gb996 hg w24 hbox hb; have n0_ := Aside0.mk (below_step bl_ hb); have n1_ := Aside0.mk (hbox); have n2_ := Aside0.mk ((hz_ : w.heap.size ≤ gb996)); have n3_ := Aside0.mk ((hz_ : w.heap.size ≤ gb996)); clear HB; have HB := n0_; have BK996 := n1_; have GW996 := n2_; have GE996 := n3_; clear n0_ n1_ n2_ n3_; clear hb hbox hg) | ((with_reducible refine gate_dst (N := 3) rfl ?_); refine box_event ?hg (N := 3) ?hd (cs := #[.int .i64 a1_0, .int .i64 a1_1, .int .i64 a1_2, .int .i64 a1_3, .int .i64 a1_4, .int .i64 a1_5]) (t := 131) ?hr ?_; (case hd => rfl); (case hg => rfl); (case hr => first | (go_simp; done) | (go_simp; rfl)); intro gb997 hg w25 hbox hb; have n0_ := Aside0.mk (blk_below (g := gb996) (o := .cells #[.int .i64 a0_0, .int .i64 a0_1, .int .i64 a0_2, .int .i64 a0_3, .int .i64 a0_4, .int .i64 a0_5] 131 (0, 0)) (bk_ BK996.out) hb); have n1_ := Aside0.mk (below_step bl_ hb); have n2_ := Aside0.mk (hbox); have n3_ := Aside0.mk ((hz_ : w.heap.size ≤ gb997)); have n4_ := Aside0.mk ((hz_ : w.heap.size ≤ gb997)); have n5_ := Aside0.mk ((by rw [hg]; exact Nat.ne_of_lt (blk_lt (g := gb996) (o := .cells #[.int .i64 a0_0, .int .i64 a0_1, .int .i64 a0_2, .int .i64 a0_3, .int .i64 a0_4, .int .i64 a0_5] 131 (0, 0)) (bk_ BK996.out)) : gb996 ≠ gb997)); have n6_ := Aside0.mk ((by rw [hg]; exact Nat.ne_of_gt (blk_lt (g := gb996) (o := .cells #[.int .i64 a0_0, .int .i64 a0_1, .int .i64 a0_2, .int .i64 a0_3, .int .i64 a0_4, .int .i64 a0_5] 131 (0, 0)) (bk_ BK996.out)) : gb997 ≠ gb996)); clear BK996; clear HB; have BK996 := n0_; have HB := n1_; have BK997 := n2_; have GW997 := n3_; have GE997 := n4_; have NB996_997 := n5_; have NB997_996 := n6_; clear n0_ n1_ n2_ n3_ n4_ n5_ n6_; clear hb hbox hg; have hnb26 := NB996_997.out; have hnc26 := NB997_996.out; have hcz27_0 : w25.cell? ⟨gb996, 0, none⟩ = some (.int .i64 a0_0) := (blk_cell BK996.out 0).trans rfl; have hcz27_1 : w25.cell? ⟨gb996, 1, none⟩ = some (.int .i64 a0_1) := (blk_cell BK996.out 1).trans rfl; have hcz27_2 : w25.cell? ⟨gb996, 2, none⟩ = some (.int .i64 a0_2) := (blk_cell BK996.out 2).trans rfl; have hcz27_3 : w25.cell? ⟨gb996, 3, none⟩ = some (.int .i64 a0_3) := (blk_cell BK996.out 3).trans rfl; have hcz27_4 : w25.cell? ⟨gb996, 4, none⟩ = some (.int .i64 a0_4) := (blk_cell BK996.out 4).trans rfl; have hcz27_5 : w25.cell? ⟨gb996, 5, none⟩ = some (.int .i64 a0_5) := (blk_cell BK996.out 5).trans rfl; have hfz27_0 := blk_frozen BK996.out 0; have hfz27_1 := blk_frozen BK996.out 1; have hfz27_2 := blk_frozen BK996.out 2; have hfz27_3 := blk_frozen BK996.out 3; have hfz27_4 := blk_frozen BK996.out 4; have hfz27_5 := blk_frozen BK996.out 5; have hcz28_0 : w25.cell? ⟨gb997, 0, none⟩ = some (.int .i64 a1_0) := (blk_cell BK997.out 0).trans rfl; have hcz28_1 : w25.cell? ⟨gb997, 1, none⟩ = some (.int .i64 a1_1) := (blk_cell BK997.out 1).trans rfl; have hcz28_2 : w25.cell? ⟨gb997, 2, none⟩ = some (.int .i64 a1_2) := (blk_cell BK997.out 2).trans rfl; have hcz28_3 : w25.cell? ⟨gb997, 3, none⟩ = some (.int .i64 a1_3) := (blk_cell BK997.out 3).trans rfl; have hcz28_4 : w25.cell? ⟨gb997, 4, none⟩ = some (.int .i64 a1_4) := (blk_cell BK997.out 4).trans rfl; have hcz28_5 : w25.cell? ⟨gb997, 5, none⟩ = some (.int .i64 a1_5) := (blk_cell BK997.out 5).trans rfl; have hfz28_0 := blk_frozen BK997.out 0; have hfz28_1 := blk_frozen BK997.out 1; have hfz28_2 := blk_frozen BK997.out 2; have hfz28_3 := blk_frozen BK997.out 3; have hfz28_4 := blk_frozen BK997.out 4; have hfz28_5 := blk_frozen BK997.out 5))
  go_ret
  exact ⟨by first | rfl | (simp [errW_none, errW_some] <;> rfl) | (simp [*, errW_none, errW_some] <;> rfl) | exact False.elim (Bool.noConfusion ((decide_eq_true (of_eq_true (by assumption))).symm.trans (by assumption))), bl_⟩


/-! ### laws_eqEntryS: function 42 -/
def laws_eqEntryS.l0 : Nat → List (S131) → List (S131) → Int → Option (Bool)
 | 0, _, _, _ => none
 | k + 1, x0, x1, x5 => if x5 < (x0.length : Int) then (if 0 ≤ x5 then (if x5 < (x1.length : Int) then ((laws_eqEntry.f ((rd_T131 x0 x5).f0) ((rd_T131 x0 x5).f1) ((rd_T131 x0 x5).f2.f0) ((rd_T131 x0 x5).f2.f1) ((rd_T131 x0 x5).f2.f2) ((rd_T131 x0 x5).f2.f3) ((rd_T131 x1 x5).f0) ((rd_T131 x1 x5).f1) ((rd_T131 x1 x5).f2.f0) ((rd_T131 x1 x5).f2.f1) ((rd_T131 x1 x5).f2.f2) ((rd_T131 x1 x5).f2.f3)).bind fun t1001 => (if t1001 = true then (laws_eqEntryS.l0 k x0 x1 (wrap64 (x5 + 1))) else (some false))) else (none)) else (none)) else (some true)
def laws_eqEntryS.f (k : Nat) (l0 : List (S131)) (l1 : List (S131)) : Option (Bool) := if (l0.length : Int) = (l1.length : Int) then (laws_eqEntryS.l0 k l0 l1 0) else (some false)
theorem laws_eqEntryS.mono_l : ∀ k, (∀ y0 y1 y2, LeO (laws_eqEntryS.l0 k y0 y1 y2) (laws_eqEntryS.l0 (k + 1) y0 y1 y2))
 | 0 => fun _ _ _ r h => by simp [laws_eqEntryS.l0] at h
 | k + 1 => by
  have ih0 := laws_eqEntryS.mono_l k
  ·intro y0 y1 y2
   unfold laws_eqEntryS.l0
   repeat' first
   | (with_reducible exact ih0 _ _ _)
   | (with_reducible exact LeO.refl _)
   | (with_reducible exact LeO.none _)
   | (with_reducible refine LeO.ite ?_ ?_)
   | (with_reducible refine LeO.bind ?_ (fun _ => ?_))
   | exact ih0 _ _ _
   | exact LeO.none _
   | refine LeO.ite ?_ ?_
   | refine LeO.bind ?_ (fun _ => ?_)
theorem laws_eqEntryS.mono : ∀ a0 a1 k, LeO (laws_eqEntryS.f k a0 a1) (laws_eqEntryS.f (k + 1) a0 a1) := by
 intro a0 a1 k
 have ih0 := laws_eqEntryS.mono_l k
 unfold laws_eqEntryS.f
 repeat' first
  | (with_reducible exact ih0 _ _ _)
  | (with_reducible exact LeO.refl _)
  | (with_reducible exact LeO.none _)
  | (with_reducible refine LeO.ite ?_ ?_)
  | (with_reducible refine LeO.bind ?_ (fun _ => ?_))
  | exact ih0 _ _ _
  | exact LeO.none _
  | refine LeO.ite ?_ ?_
  | refine LeO.bind ?_ (fun _ => ?_)
def laws_eqEntryS.T6 : Bool × List (List Nat × List Nat) := (true, [([], []), ([], []), ([0, 1], [0, 1]), ([2], [2]), ([], []), ([], []), ([4, 5], [4, 5]), ([6], [6]), ([3, 7], [3, 7]), ([8], [8])])
def laws_eqEntryS.B6 : List Nat := [0, 0, 3, 7, 0, 0, 48, 112, 255, 511]
theorem laws_eqEntryS.tab6 : rtab .any (opsOf Try.f42 6) = laws_eqEntryS.T6 := by kernel_rfl
theorem laws_eqEntryS.bits6 : waitsOk laws_eqEntryS.T6.2 laws_eqEntryS.B6 = true := by kernel_rfl
set_option maxHeartbeats 8000000 in
set_option maxRecDepth 100000 in
theorem laws_eqEntryS.calls (k : Nat) (A0 : Option Addr) (c0 : Nat) (l0 : List (S131)) (A1 : Option Addr) (c1 : Nat) (l1 : List (S131)) (r : Bool) (w : World) (hr0 : Kd.C k131 w A0 l0.length l0) (hc0 : l0.length ≤ c0) (hr1 : Kd.C k131 w A1 l1.length l1) (hc1 : l1.length ≤ c1) (h : laws_eqEntryS.f k l0 l1 = some r) :
 Calls Try.prog 42 #[.slice A0 l0.length c0, .slice A1 l1.length c1] w fun e w' => e = .returned (.bool r) ∧ Below w.heap.size w w' := by
 have hu131 := Try.underlying131
 have HR0 := Aside0.mk hr0
 have HC0 := Aside0.mk hc0
 clear hr0 hc0
 have HR1 := Aside0.mk hr1
 have HC1 := Aside0.mk hc1
 clear hr1 hc1
 have HB := Aside0.mk (Below.refl w.heap.size w)
 have H : (if (l0.length : Int) = (l1.length : Int) then (laws_eqEntryS.l0 k l0 l1 0) else (some false)) = some r := h
 clear h
 by_cases c3 : (l0.length : Int) = (l1.length : Int)
 ·rw [if_pos c3] at H
  have c3b0 : ((l0.length : Int) == (l1.length : Int)) = true := beq_iff_eq.mpr c3
  have c3b1 : ((l0.length : Int) != (l1.length : Int)) = false := bne_eq_false_iff_eq.mpr c3
  have c3b2 : (l0.length == l1.length) = true := by first | simpa using c3 | (simp at c3 ⊢; omega)
  clear c3
  have H' := Aside0.mk H
  clear H
  go_enter Try.func42, Try.ntmps42
  go_wp2
  go_loopg [5] k (fun kq v5 w' => ∃ (x5_1 : Int), v5 = .int .i64 x5_1 ∧ Aside0 (laws_eqEntryS.l0 kq l0 l1 x5_1 = some r) ∧ Aside0 (kq ≤ k) ∧ Aside0 (Below w.heap.size w w'))
  case atStart => exact ⟨(0), (by first | rfl | (simp; done) | (simp [*]; done)), H', ⟨Nat.le_refl _⟩, ⟨bl_⟩⟩
  case round =>
   clear H'
   try clear c1
   try clear p2
   try clear c3
   try clear c3b0
   try clear c3b1
   try clear c3b2
   obtain ⟨x5_1, rfl, HA, HK1, HB⟩ := hrel
   cases gk with
   | zero => exact absurd HA.out (by simp [laws_eqEntryS.l0])
   | succ k1 =>
    have H := HA.out
    clear HA
    simp only [laws_eqEntryS.l0] at H
    by_cases c4 : x5_1 < (l0.length : Int)
    ·rw [if_pos c4] at H
     have c4b0 : decide (x5_1 < (l0.length : Int)) = true := decide_eq_true c4
     clear c4
     by_cases c5 : 0 ≤ x5_1
     ·rw [if_pos c5] at H
      have c5b0 : decide (0 ≤ x5_1) = true := decide_eq_true c5
      clear c5
      by_cases c6 : x5_1 < (l1.length : Int)
      ·rw [if_pos c6] at H
       have c6b0 : decide (x5_1 < (l1.length : Int)) = true := decide_eq_true c6
       clear c6
       replace H := Option.bind_eq_some_iff.mp H
       obtain ⟨t1001, A70, H⟩ := H
       try dsimp only at H
       have A7 := Aside0.mk A70
       clear A70
       by_cases c8 : t1001 = true
       ·subst c8
        rw [if_pos rfl] at H
        have H' := Aside0.mk H
        clear H
        try go_wp2
        have n0_ := Aside0.mk (below_drew1 HB.out)
        clear HB
        have HB := n0_
        clear n0_
        have p999 : 0 ≤ (x5_1 : Int) := of_decide_eq_true as_
        have q999 : x5_1 < (l0.length : Int) := of_decide_eq_true as_
        obtain ⟨ad999, e999, hx999_0, hx999_1, hx999_2, hx999_3, hx999_4, hx999_5⟩ := at_T131 HR0.out x5_1 p999 q999
        have hw999_5 := hx999_5
        have hw999_4 := hx999_4
        have hw999_3 := hx999_3
        have hw999_2 := hx999_2
        have hw999_1 := hx999_1
        have hw999_0 := hx999_0
        cases e999
        replace hx999_0 := (HB.out.cell (World.block_lt_of_cell? w _ hx999_0)).trans hx999_0
        replace hx999_1 := (HB.out.cell (World.block_lt_of_cell? w _ hx999_1)).trans hx999_1
        replace hx999_2 := (HB.out.cell (World.block_lt_of_cell? w _ hx999_2)).trans hx999_2
        replace hx999_3 := (HB.out.cell (World.block_lt_of_cell? w _ hx999_3)).trans hx999_3
        replace hx999_4 := (HB.out.cell (World.block_lt_of_cell? w _ hx999_4)).trans hx999_4
        replace hx999_5 := (HB.out.cell (World.block_lt_of_cell? w _ hx999_5)).trans hx999_5
        replace p999 := eq_true p999
        replace q999 := eq_true q999
        have p1000 : 0 ≤ (x5_1 : Int) := of_decide_eq_true as_
        have q1000 : x5_1 < (l1.length : Int) := of_decide_eq_true as_
        obtain ⟨ad1000, e1000, hx1000_0, hx1000_1, hx1000_2, hx1000_3, hx1000_4, hx1000_5⟩ := at_T131 HR1.out x5_1 p1000 q1000
        have hw1000_5 := hx1000_5
        have hw1000_4 := hx1000_4
        have hw1000_3 := hx1000_3
        have hw1000_2 := hx1000_2
        have hw1000_1 := hx1000_1
        have hw1000_0 := hx1000_0
        cases e1000
        replace hx1000_0 := (HB.out.cell (World.block_lt_of_cell? w _ hx1000_0)).trans hx1000_0
        replace hx1000_1 := (HB.out.cell (World.block_lt_of_cell? w _ hx1000_1)).trans hx1000_1
        replace hx1000_2 := (HB.out.cell (World.block_lt_of_cell? w _ hx1000_2)).trans hx1000_2
        replace hx1000_3 := (HB.out.cell (World.block_lt_of_cell? w _ hx1000_3)).trans hx1000_3
        replace hx1000_4 := (HB.out.cell (World.block_lt_of_cell? w _ hx1000_4)).trans hx1000_4
        replace hx1000_5 := (HB.out.cell (World.block_lt_of_cell? w _ hx1000_5)).trans hx1000_5
        replace p1000 := eq_true p1000
        replace q1000 := eq_true q1000
        refine start_ (n := 10) (S := fun w' => w'.cell? (ad999.add ((x5_1).toNat * 6)) = some (.int .i64 ((rd_T131 l0 x5_1).f0)) ∧ w'.cell? ⟨(ad999.add ((x5_1).toNat * 6)).block, (ad999.add ((x5_1).toNat * 6)).off + 1, none⟩ = some (.int .i64 ((rd_T131 l0 x5_1).f1)) ∧ w'.cell? ⟨(ad999.add ((x5_1).toNat * 6)).block, (ad999.add ((x5_1).toNat * 6)).off + 2, none⟩ = some (.int .i64 ((rd_T131 l0 x5_1).f2.f0)) ∧ w'.cell? ⟨(ad999.add ((x5_1).toNat * 6)).block, (ad999.add ((x5_1).toNat * 6)).off + 3, none⟩ = some (.int .i64 ((rd_T131 l0 x5_1).f2.f1)) ∧ w'.cell? ⟨(ad999.add ((x5_1).toNat * 6)).block, (ad999.add ((x5_1).toNat * 6)).off + 4, none⟩ = some (.int .i64 ((rd_T131 l0 x5_1).f2.f2)) ∧ w'.cell? ⟨(ad999.add ((x5_1).toNat * 6)).block, (ad999.add ((x5_1).toNat * 6)).off + 5, none⟩ = some (.int .i64 ((rd_T131 l0 x5_1).f2.f3)) ∧ w'.cell? (ad1000.add ((x5_1).toNat * 6)) = some (.int .i64 ((rd_T131 l1 x5_1).f0)) ∧ w'.cell? ⟨(ad1000.add ((x5_1).toNat * 6)).block, (ad1000.add ((x5_1).toNat * 6)).off + 1, none⟩ = some (.int .i64 ((rd_T131 l1 x5_1).f1)) ∧ w'.cell? ⟨(ad1000.add ((x5_1).toNat * 6)).block, (ad1000.add ((x5_1).toNat * 6)).off + 2, none⟩ = some (.int .i64 ((rd_T131 l1 x5_1).f2.f0)) ∧ w'.cell? ⟨(ad1000.add ((x5_1).toNat * 6)).block, (ad1000.add ((x5_1).toNat * 6)).off + 3, none⟩ = some (.int .i64 ((rd_T131 l1 x5_1).f2.f1)) ∧ w'.cell? ⟨(ad1000.add ((x5_1).toNat * 6)).block, (ad1000.add ((x5_1).toNat * 6)).off + 4, none⟩ = some (.int .i64 ((rd_T131 l1 x5_1).f2.f2)) ∧ w'.cell? ⟨(ad1000.add ((x5_1).toNat * 6)).block, (ad1000.add ((x5_1).toNat * 6)).off + 5, none⟩ = some (.int .i64 ((rd_T131 l1 x5_1).f2.f3))) (ds := []) #[false, false, false, false, false, false, false, false, false, false] (by kernel_rfl) rfl rfl ⟨((HB.out.cell (World.block_lt_of_cell? w _ hw999_0)).trans hw999_0), ((HB.out.cell (World.block_lt_of_cell? w _ hw999_1)).trans hw999_1), ((HB.out.cell (World.block_lt_of_cell? w _ hw999_2)).trans hw999_2), ((HB.out.cell (World.block_lt_of_cell? w _ hw999_3)).trans hw999_3), ((HB.out.cell (World.block_lt_of_cell? w _ hw999_4)).trans hw999_4), ((HB.out.cell (World.block_lt_of_cell? w _ hw999_5)).trans hw999_5), ((HB.out.cell (World.block_lt_of_cell? w _ hw1000_0)).trans hw1000_0), ((HB.out.cell (World.block_lt_of_cell? w _ hw1000_1)).trans hw1000_1), ((HB.out.cell (World.block_lt_of_cell? w _ hw1000_2)).trans hw1000_2), ((HB.out.cell (World.block_lt_of_cell? w _ hw1000_3)).trans hw1000_3), ((HB.out.cell (World.block_lt_of_cell? w _ hw1000_4)).trans hw1000_4), ((HB.out.cell (World.block_lt_of_cell? w _ hw1000_5)).trans hw1000_5)⟩ (fun hHeld => ?_); refine with_tabW laws_eqEntryS.tab6 laws_eqEntryS.bits6 (fun HT_ HW_ => ?_)
        generalize wr.drew = w9 at HB hx1000_0 hx1000_1 hx1000_2 hx1000_3 hx1000_4 hx1000_5 hx999_0 hx999_1 hx999_2 hx999_3 hx999_4 hx999_5 hHeld ⊢
        refine pure_ (i := 0) (N := some 17) (v := ?_) (a' := ?_) #[true, false, false, false, false, false, false, false, false, false] rfl rfl (any_of HT_.out (by kernel_rfl)) (fun _ _ _ h => h) (Or.inl ⟨by rfl, ?_⟩) ?_ ?_
        rotate_left
        ·intro w'
         go_simp
         with_reducible rfl
        rotate_left
        ·simp only [Act.put, List.setIfInBounds_toArray, List.set_cons_zero, List.set_cons_succ, i64_w, i32_w]
         rfl
        refine pure_ (i := 1) (N := some 18) (v := ?_) (a' := ?_) #[true, true, false, false, false, false, false, false, false, false] rfl rfl (any_of HT_.out (by kernel_rfl)) (fun _ _ _ h => h) (Or.inl ⟨by rfl, ?_⟩) ?_ ?_
        rotate_left
        ·intro w'
         go_simp
         with_reducible rfl
        rotate_left
        ·simp only [Act.put, List.setIfInBounds_toArray, List.set_cons_zero, List.set_cons_succ, i64_w, i32_w]
         rfl
        refine pure_ (i := 2) (N := some 19) (v := ?_) (a' := ?_) #[true, true, true, false, false, false, false, false, false, false] rfl rfl (any_of HT_.out (by kernel_rfl)) (fun _ _ _ h => h) (Or.inl ⟨by rfl, ?_⟩) ?_ ?_
        rotate_left
        ·intro w'
         go_simp
         with_reducible rfl
        rotate_left
        ·simp only [Act.put, List.setIfInBounds_toArray, List.set_cons_zero, List.set_cons_succ, i64_w, i32_w]
         rfl
        refine pure_ (i := 4) (N := some 21) (v := ?_) (a' := ?_) #[true, true, true, false, true, false, false, false, false, false] rfl rfl (any_of HT_.out (by kernel_rfl)) (fun _ _ _ h => h) (Or.inl ⟨by rfl, ?_⟩) ?_ ?_
        rotate_left
        ·intro w'
         go_simp
         with_reducible rfl
        rotate_left
        ·simp only [Act.put, List.setIfInBounds_toArray, List.set_cons_zero, List.set_cons_succ, i64_w, i32_w]
         rfl
        refine pure_ (i := 5) (N := some 22) (v := ?_) (a' := ?_) #[true, true, true, false, true, true, false, false, false, false] rfl rfl (any_of HT_.out (by kernel_rfl)) (fun _ _ _ h => h) (Or.inl ⟨by rfl, ?_⟩) ?_ ?_
        rotate_left
        ·intro w'
         go_simp
         with_reducible rfl
        rotate_left
        ·simp only [Act.put, List.setIfInBounds_toArray, List.set_cons_zero, List.set_cons_succ, i64_w, i32_w]
         rfl
        refine pure_ (i := 6) (N := some 23) (v := ?_) (a' := ?_) #[true, true, true, false, true, true, true, false, false, false] rfl rfl (any_of HT_.out (by kernel_rfl)) (fun _ _ _ h => h) (Or.inl ⟨by rfl, ?_⟩) ?_ ?_
        rotate_left
        ·intro w'
         go_simp
         with_reducible rfl
        rotate_left
        ·simp only [Act.put, List.setIfInBounds_toArray, List.set_cons_zero, List.set_cons_succ, i64_w, i32_w]
         rfl
        refine take_ (i := 3) (N := some 20) (v := ?_) (a' := ?_) #[true, true, true, true, true, true, true, false, false, false] rfl rfl (take_ofW HT_.out HW_.out (by kernel_rfl)) (fun _ _ _ h => h) (Or.inl ⟨by rfl, ?_⟩) hHeld ?_ ?_
        rotate_left
        ·rintro w' ⟨s0, s1, s2, s3, s4, s5, s6, s7, s8, s9, s10, s11⟩
         go_simp
         with_reducible rfl
        rotate_left
        ·simp only [Act.put, List.setIfInBounds_toArray, List.set_cons_zero, List.set_cons_succ, i64_w, i32_w]
         rfl
        refine take_ (i := 7) (N := some 24) (v := ?_) (a' := ?_) #[true, true, true, true, true, true, true, true, false, false] rfl rfl (take_ofW HT_.out HW_.out (by kernel_rfl)) (fun _ _ _ h => h) (Or.inl ⟨by rfl, ?_⟩) hHeld ?_ ?_
        rotate_left
        ·rintro w' ⟨s0, s1, s2, s3, s4, s5, s6, s7, s8, s9, s10, s11⟩
         go_simp
         with_reducible rfl
        rotate_left
        ·simp only [Act.put, List.setIfInBounds_toArray, List.set_cons_zero, List.set_cons_succ, i64_w, i32_w]
         rfl
        refine one_ (i := 8) (N := some 25) #[true, true, true, true, true, true, true, true, true, false] rfl rfl (one_of HT_.out (by kernel_rfl)) (by decide) (fun K hK => ?_)
        refine goes_ Try.func125 (by kernel_rfl) rfl #[.agg #[.int .i64 ((rd_T131 l0 x5_1).f0), .int .i64 ((rd_T131 l0 x5_1).f1), .int .i64 ((rd_T131 l0 x5_1).f2.f0), .int .i64 ((rd_T131 l0 x5_1).f2.f1), .int .i64 ((rd_T131 l0 x5_1).f2.f2), .int .i64 ((rd_T131 l0 x5_1).f2.f3)], .agg #[.int .i64 ((rd_T131 l1 x5_1).f0), .int .i64 ((rd_T131 l1 x5_1).f1), .int .i64 ((rd_T131 l1 x5_1).f2.f0), .int .i64 ((rd_T131 l1 x5_1).f2.f1), .int .i64 ((rd_T131 l1 x5_1).f2.f2), .int .i64 ((rd_T131 l1 x5_1).f2.f3)]] (by rfl) rfl rfl lm_ ?_
        with_reducible refine (laws_eqEntry.calls ((rd_T131 l0 x5_1).f0) ((rd_T131 l0 x5_1).f1) ((rd_T131 l0 x5_1).f2.f0) ((rd_T131 l0 x5_1).f2.f1) ((rd_T131 l0 x5_1).f2.f2) ((rd_T131 l0 x5_1).f2.f3) ((rd_T131 l1 x5_1).f0) ((rd_T131 l1 x5_1).f1) ((rd_T131 l1 x5_1).f2.f0) ((rd_T131 l1 x5_1).f2.f1) ((rd_T131 l1 x5_1).f2.f2) ((rd_T131 l1 x5_1).f2.f3) true _ A7.out).mono ?_
        rintro e w10 ⟨rfl, hb⟩
        refine ⟨_, rfl, ?_⟩
        have n0_ := Aside0.mk (below_step bl_ hb)
        clear HB
        have HB := n0_
        clear n0_
        (try clear hb)
        (try clear hb2)
        (try clear hk)
        (try clear hi)
        refine hK.out _ _ ⟨((HB.out.cell (World.block_lt_of_cell? w _ hw999_0)).trans hw999_0), ((HB.out.cell (World.block_lt_of_cell? w _ hw999_1)).trans hw999_1), ((HB.out.cell (World.block_lt_of_cell? w _ hw999_2)).trans hw999_2), ((HB.out.cell (World.block_lt_of_cell? w _ hw999_3)).trans hw999_3), ((HB.out.cell (World.block_lt_of_cell? w _ hw999_4)).trans hw999_4), ((HB.out.cell (World.block_lt_of_cell? w _ hw999_5)).trans hw999_5), ((HB.out.cell (World.block_lt_of_cell? w _ hw1000_0)).trans hw1000_0), ((HB.out.cell (World.block_lt_of_cell? w _ hw1000_1)).trans hw1000_1), ((HB.out.cell (World.block_lt_of_cell? w _ hw1000_2)).trans hw1000_2), ((HB.out.cell (World.block_lt_of_cell? w _ hw1000_3)).trans hw1000_3), ((HB.out.cell (World.block_lt_of_cell? w _ hw1000_4)).trans hw1000_4), ((HB.out.cell (World.block_lt_of_cell? w _ hw1000_5)).trans hw1000_5)⟩ (fun hHeld => ?_)
        clear hK K
        refine norm_ (a' := ?_) ?_ ?_
        rotate_left
        ·show Act.put _ (some 25) _ = _
         simp only [Act.put, List.setIfInBounds_toArray, List.set_cons_zero, List.set_cons_succ, i64_w, i32_w]
         rfl
        refine pure_ (i := 9) (N := some 26) (v := ?_) (a' := ?_) #[true, true, true, true, true, true, true, true, true, true] rfl rfl (any_of HT_.out (by kernel_rfl)) (fun _ _ _ h => h) (Or.inl ⟨by rfl, ?_⟩) ?_ ?_
        rotate_left
        ·intro w'
         go_simp
         with_reducible rfl
        rotate_left
        ·simp only [Act.put, List.setIfInBounds_toArray, List.set_cons_zero, List.set_cons_succ, i64_w, i32_w]
         rfl
        refine done_ (done_of HT_.out (by kernel_rfl)) ?_
        try go_wp2
        go_roundg k1
        case measure => have := HK1.out; omega
        case rel => exact ⟨(wrap64 (x5_1 + 1)), (by first | rfl | (simp; done) | (simp [*]; done)), H', ⟨by have := HK1.out; omega⟩, ⟨bl_⟩⟩
       ·replace c8 := Bool.eq_false_iff.mpr c8
        subst c8
        rw [if_neg (show ¬ (false = true) by decide)] at H
        obtain rfl := Option.some.inj H
        try go_wp2
        have n0_ := Aside0.mk (below_drew1 HB.out)
        clear HB
        have HB := n0_
        clear n0_
        have p999 : 0 ≤ (x5_1 : Int) := of_decide_eq_true as_
        have q999 : x5_1 < (l0.length : Int) := of_decide_eq_true as_
        obtain ⟨ad999, e999, hx999_0, hx999_1, hx999_2, hx999_3, hx999_4, hx999_5⟩ := at_T131 HR0.out x5_1 p999 q999
        have hw999_5 := hx999_5
        have hw999_4 := hx999_4
        have hw999_3 := hx999_3
        have hw999_2 := hx999_2
        have hw999_1 := hx999_1
        have hw999_0 := hx999_0
        cases e999
        replace hx999_0 := (HB.out.cell (World.block_lt_of_cell? w _ hx999_0)).trans hx999_0
        replace hx999_1 := (HB.out.cell (World.block_lt_of_cell? w _ hx999_1)).trans hx999_1
        replace hx999_2 := (HB.out.cell (World.block_lt_of_cell? w _ hx999_2)).trans hx999_2
        replace hx999_3 := (HB.out.cell (World.block_lt_of_cell? w _ hx999_3)).trans hx999_3
        replace hx999_4 := (HB.out.cell (World.block_lt_of_cell? w _ hx999_4)).trans hx999_4
        replace hx999_5 := (HB.out.cell (World.block_lt_of_cell? w _ hx999_5)).trans hx999_5
        replace p999 := eq_true p999
        replace q999 := eq_true q999
        have p1000 : 0 ≤ (x5_1 : Int) := of_decide_eq_true as_
        have q1000 : x5_1 < (l1.length : Int) := of_decide_eq_true as_
        obtain ⟨ad1000, e1000, hx1000_0, hx1000_1, hx1000_2, hx1000_3, hx1000_4, hx1000_5⟩ := at_T131 HR1.out x5_1 p1000 q1000
        have hw1000_5 := hx1000_5
        have hw1000_4 := hx1000_4
        have hw1000_3 := hx1000_3
        have hw1000_2 := hx1000_2
        have hw1000_1 := hx1000_1
        have hw1000_0 := hx1000_0
        cases e1000
        replace hx1000_0 := (HB.out.cell (World.block_lt_of_cell? w _ hx1000_0)).trans hx1000_0
        replace hx1000_1 := (HB.out.cell (World.block_lt_of_cell? w _ hx1000_1)).trans hx1000_1
        replace hx1000_2 := (HB.out.cell (World.block_lt_of_cell? w _ hx1000_2)).trans hx1000_2
        replace hx1000_3 := (HB.out.cell (World.block_lt_of_cell? w _ hx1000_3)).trans hx1000_3
        replace hx1000_4 := (HB.out.cell (World.block_lt_of_cell? w _ hx1000_4)).trans hx1000_4
        replace hx1000_5 := (HB.out.cell (World.block_lt_of_cell? w _ hx1000_5)).trans hx1000_5
        replace p1000 := eq_true p1000
        replace q1000 := eq_true q1000
        refine start_ (n := 10) (S := fun w' => w'.cell? (ad999.add ((x5_1).toNat * 6)) = some (.int .i64 ((rd_T131 l0 x5_1).f0)) ∧ w'.cell? ⟨(ad999.add ((x5_1).toNat * 6)).block, (ad999.add ((x5_1).toNat * 6)).off + 1, none⟩ = some (.int .i64 ((rd_T131 l0 x5_1).f1)) ∧ w'.cell? ⟨(ad999.add ((x5_1).toNat * 6)).block, (ad999.add ((x5_1).toNat * 6)).off + 2, none⟩ = some (.int .i64 ((rd_T131 l0 x5_1).f2.f0)) ∧ w'.cell? ⟨(ad999.add ((x5_1).toNat * 6)).block, (ad999.add ((x5_1).toNat * 6)).off + 3, none⟩ = some (.int .i64 ((rd_T131 l0 x5_1).f2.f1)) ∧ w'.cell? ⟨(ad999.add ((x5_1).toNat * 6)).block, (ad999.add ((x5_1).toNat * 6)).off + 4, none⟩ = some (.int .i64 ((rd_T131 l0 x5_1).f2.f2)) ∧ w'.cell? ⟨(ad999.add ((x5_1).toNat * 6)).block, (ad999.add ((x5_1).toNat * 6)).off + 5, none⟩ = some (.int .i64 ((rd_T131 l0 x5_1).f2.f3)) ∧ w'.cell? (ad1000.add ((x5_1).toNat * 6)) = some (.int .i64 ((rd_T131 l1 x5_1).f0)) ∧ w'.cell? ⟨(ad1000.add ((x5_1).toNat * 6)).block, (ad1000.add ((x5_1).toNat * 6)).off + 1, none⟩ = some (.int .i64 ((rd_T131 l1 x5_1).f1)) ∧ w'.cell? ⟨(ad1000.add ((x5_1).toNat * 6)).block, (ad1000.add ((x5_1).toNat * 6)).off + 2, none⟩ = some (.int .i64 ((rd_T131 l1 x5_1).f2.f0)) ∧ w'.cell? ⟨(ad1000.add ((x5_1).toNat * 6)).block, (ad1000.add ((x5_1).toNat * 6)).off + 3, none⟩ = some (.int .i64 ((rd_T131 l1 x5_1).f2.f1)) ∧ w'.cell? ⟨(ad1000.add ((x5_1).toNat * 6)).block, (ad1000.add ((x5_1).toNat * 6)).off + 4, none⟩ = some (.int .i64 ((rd_T131 l1 x5_1).f2.f2)) ∧ w'.cell? ⟨(ad1000.add ((x5_1).toNat * 6)).block, (ad1000.add ((x5_1).toNat * 6)).off + 5, none⟩ = some (.int .i64 ((rd_T131 l1 x5_1).f2.f3))) (ds := []) #[false, false, false, false, false, false, false, false, false, false] (by kernel_rfl) rfl rfl ⟨((HB.out.cell (World.block_lt_of_cell? w _ hw999_0)).trans hw999_0), ((HB.out.cell (World.block_lt_of_cell? w _ hw999_1)).trans hw999_1), ((HB.out.cell (World.block_lt_of_cell? w _ hw999_2)).trans hw999_2), ((HB.out.cell (World.block_lt_of_cell? w _ hw999_3)).trans hw999_3), ((HB.out.cell (World.block_lt_of_cell? w _ hw999_4)).trans hw999_4), ((HB.out.cell (World.block_lt_of_cell? w _ hw999_5)).trans hw999_5), ((HB.out.cell (World.block_lt_of_cell? w _ hw1000_0)).trans hw1000_0), ((HB.out.cell (World.block_lt_of_cell? w _ hw1000_1)).trans hw1000_1), ((HB.out.cell (World.block_lt_of_cell? w _ hw1000_2)).trans hw1000_2), ((HB.out.cell (World.block_lt_of_cell? w _ hw1000_3)).trans hw1000_3), ((HB.out.cell (World.block_lt_of_cell? w _ hw1000_4)).trans hw1000_4), ((HB.out.cell (World.block_lt_of_cell? w _ hw1000_5)).trans hw1000_5)⟩ (fun hHeld => ?_); refine with_tabW laws_eqEntryS.tab6 laws_eqEntryS.bits6 (fun HT_ HW_ => ?_)
        generalize wr.drew = w11 at HB hx1000_0 hx1000_1 hx1000_2 hx1000_3 hx1000_4 hx1000_5 hx999_0 hx999_1 hx999_2 hx999_3 hx999_4 hx999_5 hHeld ⊢
        refine pure_ (i := 0) (N := some 17) (v := ?_) (a' := ?_) #[true, false, false, false, false, false, false, false, false, false] rfl rfl (any_of HT_.out (by kernel_rfl)) (fun _ _ _ h => h) (Or.inl ⟨by rfl, ?_⟩) ?_ ?_
        rotate_left
        ·intro w'
         go_simp
         with_reducible rfl
        rotate_left
        ·simp only [Act.put, List.setIfInBounds_toArray, List.set_cons_zero, List.set_cons_succ, i64_w, i32_w]
         rfl
        refine pure_ (i := 1) (N := some 18) (v := ?_) (a' := ?_) #[true, true, false, false, false, false, false, false, false, false] rfl rfl (any_of HT_.out (by kernel_rfl)) (fun _ _ _ h => h) (Or.inl ⟨by rfl, ?_⟩) ?_ ?_
        rotate_left
        ·intro w'
         go_simp
         with_reducible rfl
        rotate_left
        ·simp only [Act.put, List.setIfInBounds_toArray, List.set_cons_zero, List.set_cons_succ, i64_w, i32_w]
         rfl
        refine pure_ (i := 2) (N := some 19) (v := ?_) (a' := ?_) #[true, true, true, false, false, false, false, false, false, false] rfl rfl (any_of HT_.out (by kernel_rfl)) (fun _ _ _ h => h) (Or.inl ⟨by rfl, ?_⟩) ?_ ?_
        rotate_left
        ·intro w'
         go_simp
         with_reducible rfl
        rotate_left
        ·simp only [Act.put, List.setIfInBounds_toArray, List.set_cons_zero, List.set_cons_succ, i64_w, i32_w]
         rfl
        refine pure_ (i := 4) (N := some 21) (v := ?_) (a' := ?_) #[true, true, true, false, true, false, false, false, false, false] rfl rfl (any_of HT_.out (by kernel_rfl)) (fun _ _ _ h => h) (Or.inl ⟨by rfl, ?_⟩) ?_ ?_
        rotate_left
        ·intro w'
         go_simp
         with_reducible rfl
        rotate_left
        ·simp only [Act.put, List.setIfInBounds_toArray, List.set_cons_zero, List.set_cons_succ, i64_w, i32_w]
         rfl
        refine pure_ (i := 5) (N := some 22) (v := ?_) (a' := ?_) #[true, true, true, false, true, true, false, false, false, false] rfl rfl (any_of HT_.out (by kernel_rfl)) (fun _ _ _ h => h) (Or.inl ⟨by rfl, ?_⟩) ?_ ?_
        rotate_left
        ·intro w'
         go_simp
         with_reducible rfl
        rotate_left
        ·simp only [Act.put, List.setIfInBounds_toArray, List.set_cons_zero, List.set_cons_succ, i64_w, i32_w]
         rfl
        refine pure_ (i := 6) (N := some 23) (v := ?_) (a' := ?_) #[true, true, true, false, true, true, true, false, false, false] rfl rfl (any_of HT_.out (by kernel_rfl)) (fun _ _ _ h => h) (Or.inl ⟨by rfl, ?_⟩) ?_ ?_
        rotate_left
        ·intro w'
         go_simp
         with_reducible rfl
        rotate_left
        ·simp only [Act.put, List.setIfInBounds_toArray, List.set_cons_zero, List.set_cons_succ, i64_w, i32_w]
         rfl
        refine take_ (i := 3) (N := some 20) (v := ?_) (a' := ?_) #[true, true, true, true, true, true, true, false, false, false] rfl rfl (take_ofW HT_.out HW_.out (by kernel_rfl)) (fun _ _ _ h => h) (Or.inl ⟨by rfl, ?_⟩) hHeld ?_ ?_
        rotate_left
        ·rintro w' ⟨s0, s1, s2, s3, s4, s5, s6, s7, s8, s9, s10, s11⟩
         go_simp
         with_reducible rfl
        rotate_left
        ·simp only [Act.put, List.setIfInBounds_toArray, List.set_cons_zero, List.set_cons_succ, i64_w, i32_w]
         rfl
        refine take_ (i := 7) (N := some 24) (v := ?_) (a' := ?_) #[true, true, true, true, true, true, true, true, false, false] rfl rfl (take_ofW HT_.out HW_.out (by kernel_rfl)) (fun _ _ _ h => h) (Or.inl ⟨by rfl, ?_⟩) hHeld ?_ ?_
        rotate_left
        ·rintro w' ⟨s0, s1, s2, s3, s4, s5, s6, s7, s8, s9, s10, s11⟩
         go_simp
         with_reducible rfl
        rotate_left
        ·simp only [Act.put, List.setIfInBounds_toArray, List.set_cons_zero, List.set_cons_succ, i64_w, i32_w]
         rfl
        refine one_ (i := 8) (N := some 25) #[true, true, true, true, true, true, true, true, true, false] rfl rfl (one_of HT_.out (by kernel_rfl)) (by decide) (fun K hK => ?_)
        refine goes_ Try.func125 (by kernel_rfl) rfl #[.agg #[.int .i64 ((rd_T131 l0 x5_1).f0), .int .i64 ((rd_T131 l0 x5_1).f1), .int .i64 ((rd_T131 l0 x5_1).f2.f0), .int .i64 ((rd_T131 l0 x5_1).f2.f1), .int .i64 ((rd_T131 l0 x5_1).f2.f2), .int .i64 ((rd_T131 l0 x5_1).f2.f3)], .agg #[.int .i64 ((rd_T131 l1 x5_1).f0), .int .i64 ((rd_T131 l1 x5_1).f1), .int .i64 ((rd_T131 l1 x5_1).f2.f0), .int .i64 ((rd_T131 l1 x5_1).f2.f1), .int .i64 ((rd_T131 l1 x5_1).f2.f2), .int .i64 ((rd_T131 l1 x5_1).f2.f3)]] (by rfl) rfl rfl lm_ ?_
        with_reducible refine (laws_eqEntry.calls ((rd_T131 l0 x5_1).f0) ((rd_T131 l0 x5_1).f1) ((rd_T131 l0 x5_1).f2.f0) ((rd_T131 l0 x5_1).f2.f1) ((rd_T131 l0 x5_1).f2.f2) ((rd_T131 l0 x5_1).f2.f3) ((rd_T131 l1 x5_1).f0) ((rd_T131 l1 x5_1).f1) ((rd_T131 l1 x5_1).f2.f0) ((rd_T131 l1 x5_1).f2.f1) ((rd_T131 l1 x5_1).f2.f2) ((rd_T131 l1 x5_1).f2.f3) false _ A7.out).mono ?_
        rintro e w12 ⟨rfl, hb⟩
        refine ⟨_, rfl, ?_⟩
        have n0_ := Aside0.mk (below_step bl_ hb)
        clear HB
        have HB := n0_
        clear n0_
        (try clear hb)
        (try clear hb2)
        (try clear hk)
        (try clear hi)
        refine hK.out _ _ ⟨((HB.out.cell (World.block_lt_of_cell? w _ hw999_0)).trans hw999_0), ((HB.out.cell (World.block_lt_of_cell? w _ hw999_1)).trans hw999_1), ((HB.out.cell (World.block_lt_of_cell? w _ hw999_2)).trans hw999_2), ((HB.out.cell (World.block_lt_of_cell? w _ hw999_3)).trans hw999_3), ((HB.out.cell (World.block_lt_of_cell? w _ hw999_4)).trans hw999_4), ((HB.out.cell (World.block_lt_of_cell? w _ hw999_5)).trans hw999_5), ((HB.out.cell (World.block_lt_of_cell? w _ hw1000_0)).trans hw1000_0), ((HB.out.cell (World.block_lt_of_cell? w _ hw1000_1)).trans hw1000_1), ((HB.out.cell (World.block_lt_of_cell? w _ hw1000_2)).trans hw1000_2), ((HB.out.cell (World.block_lt_of_cell? w _ hw1000_3)).trans hw1000_3), ((HB.out.cell (World.block_lt_of_cell? w _ hw1000_4)).trans hw1000_4), ((HB.out.cell (World.block_lt_of_cell? w _ hw1000_5)).trans hw1000_5)⟩ (fun hHeld => ?_)
        clear hK K
        refine norm_ (a' := ?_) ?_ ?_
        rotate_left
        ·show Act.put _ (some 25) _ = _
         simp only [Act.put, List.setIfInBounds_toArray, List.set_cons_zero, List.set_cons_succ, i64_w, i32_w]
         rfl
        refine pure_ (i := 9) (N := some 26) (v := ?_) (a' := ?_) #[true, true, true, true, true, true, true, true, true, true] rfl rfl (any_of HT_.out (by kernel_rfl)) (fun _ _ _ h => h) (Or.inl ⟨by rfl, ?_⟩) ?_ ?_
        rotate_left
        ·intro w'
         go_simp
         with_reducible rfl
        rotate_left
        ·simp only [Act.put, List.setIfInBounds_toArray, List.set_cons_zero, List.set_cons_succ, i64_w, i32_w]
         rfl
        refine done_ (done_of HT_.out (by kernel_rfl)) ?_
        try go_wp2
        go_ret
        exact ⟨by first | rfl | (simp [errW_none, errW_some] <;> rfl) | (simp [*, errW_none, errW_some] <;> rfl) | exact False.elim (Bool.noConfusion ((decide_eq_true (of_eq_true (by assumption))).symm.trans (by assumption))), bl_⟩
      ·rw [if_neg c6] at H
       exact absurd H (by simp)
     ·rw [if_neg c5] at H
      exact absurd H (by simp)
    ·rw [if_neg c4] at H
     have c4b0 : decide (x5_1 < (l0.length : Int)) = false := decide_eq_false c4
     clear c4
     obtain rfl := Option.some.inj H
     go_wp2
     go_ret
     exact ⟨by first | rfl | (simp [errW_none, errW_some] <;> rfl) | (simp [*, errW_none, errW_some] <;> rfl) | exact False.elim (Bool.noConfusion ((decide_eq_true (of_eq_true (by assumption))).symm.trans (by assumption))), bl_⟩
 ·rw [if_neg c3] at H
  have c3b0 : ((l0.length : Int) == (l1.length : Int)) = false := beq_eq_false_iff_ne.mpr c3
  have c3b1 : ((l0.length : Int) != (l1.length : Int)) = true := bne_iff_ne.mpr c3
  have c3b2 : (l0.length == l1.length) = false := by first | simpa using c3 | (simp at c3 ⊢; omega)
  obtain rfl := Option.some.inj H
  go_enter Try.func42, Try.ntmps42
  go_wp2
  go_ret
  exact ⟨by first | rfl | (simp [errW_none, errW_some] <;> rfl) | (simp [*, errW_none, errW_some] <;> rfl) | exact False.elim (Bool.noConfusion ((decide_eq_true (of_eq_true (by assumption))).symm.trans (by assumption))), bl_⟩

end Go.Proofs.Ytmjlhikflhbdaaa.PA

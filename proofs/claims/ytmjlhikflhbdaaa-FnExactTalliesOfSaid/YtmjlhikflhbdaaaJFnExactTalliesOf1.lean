/- Contracts of functions of the program and of the reference, and plain lemmas on what they compute: a part of the proof of the law FnExactTalliesOf. No condition. -/
import Derived.Test.YtmjlhikflhbdaaaGabbbex0
import Derived.Test.YtmjlhikflhbdaaaG26642x0
import Derived.Test.YtmjlhikflhbdaaaGd53c9x0
import Derived.Test.YtmjlhikflhbdaaaG06b76x0
import Derived.Test.YtmjlhikflhbdaaaGa31e0x0
import Derived.Test.YtmjlhikflhbdaaaV0
import Derived.ChangeArms
import Derived.ChangeOld
import Derived.WideShapes
import Derived.OpenShut
import Derived.DataElems
import Derived.Test.YtmjlhikflhbdaaaRows
import Derived.WalkKit
import Derived.ProofKit
import Derived.ShutString
import Derived.Below
import Derived.SizedLaws
import Derived.Carry
import Derived.Test.YtmjlhikflhbdaaaShortV
namespace Go.Proofs.Ytmjlhikflhbdaaa.PA
open Go.RowKit Go.Proofs.Ytmjlhikflhbdaaa.Short Go.Proofs.YtmjlhikflhbdaaaW.PrintWords Go.Proofs.YtmjlhikflhbdaaaW.PrintLast Go.Proofs.YtmjlhikflhbdaaaW.PrintMore
attribute [local go_sem] max2_int min2_int max_two min_two max_three min_three max_four min_four   -- for this text's walks alone
set_option linter.unusedVariables false
set_option linter.unusedSimpArgs false

/-! ### laws_eqTally: function 130 -/
def laws_eqTally.f (a0_0 : Int) (a0_1 : Int) (a1_0 : Int) (a1_1 : Int) : Option (Bool) := if a0_0 = a1_0 then (if a0_1 = a1_1 then (some true) else (some false)) else (some false)
set_option maxHeartbeats 8000000 in
set_option maxRecDepth 100000 in
theorem laws_eqTally.calls (a0_0 : Int) (a0_1 : Int) (a1_0 : Int) (a1_1 : Int) (r : Bool) (w : World) (h : laws_eqTally.f a0_0 a0_1 a1_0 a1_1 = some r) :
 Calls Try.prog 130 #[.agg #[.int .i64 a0_0, .int .i64 a0_1], .agg #[.int .i64 a1_0, .int .i64 a1_1]] w fun e w' => e = .returned (.bool r) ∧ Below w.heap.size w w' := by
 have hu65 := Try.underlying65
 have HB := Aside0.mk (Below.refl w.heap.size w)
 have H : (if a0_0 = a1_0 then (if a0_1 = a1_1 then (some true) else (some false)) else (some false)) = some r := h
 clear h
 by_cases c3 : a0_0 = a1_0
 ·rw [if_pos c3] at H
  have c3b0 : (a0_0 == a1_0) = true := beq_iff_eq.mpr c3
  have c3b1 : (a0_0 != a1_0) = false := bne_eq_false_iff_eq.mpr c3
  clear c3
  by_cases c4 : a0_1 = a1_1
  ·rw [if_pos c4] at H
   have c4b0 : (a0_1 == a1_1) = true := beq_iff_eq.mpr c4
   have c4b1 : (a0_1 != a1_1) = false := bne_eq_false_iff_eq.mpr c4
   clear c4
   obtain rfl := Option.some.inj H
   go_enter Try.func130, Try.ntmps130
   go_wp2_with (first | ((with_reducible refine gate_dst (N := 2) rfl ?_); refine box_event ?hg (N := 2) ?hd (cs := #[.int .i64 a0_0, .int .i64 a0_1]) (t := 65) ?hr ?_; (case hd => rfl); (case hg => rfl); (case hr => first | (go_simp; done) | (go_simp; rfl)); intro gb1078 hg w5 hbox hb; have n0_ := Aside0.mk (below_step bl_ hb); have n1_ := Aside0.mk (hbox); have n2_ := Aside0.mk ((hz_ : w.heap.size ≤ gb1078)); have n3_ := Aside0.mk ((hz_ : w.heap.size ≤ gb1078)); clear HB; have HB := n0_; have BK1078 := n1_; have GW1078 := n2_; have GE1078 := n3_; clear n0_ n1_ n2_ n3_; clear hb hbox hg) | ((with_reducible refine gate_dst (N := 3) rfl ?_); refine box_event ?hg (N := 3) ?hd (cs := #[.int .i64 a1_0, .int .i64 a1_1]) (t := 65) ?hr ?_; (case hd => rfl); (case hg => rfl); (case hr => first | (go_simp; done) | (go_simp; rfl)); intro gb1079 hg w6 hbox hb; have n0_ := Aside0.mk (blk_below (g := gb1078) (o := .cells #[.int .i64 a0_0, .int .i64 a0_1] 65 (0, 0)) (bk_ BK1078.out) hb); have n1_ := Aside0.mk (below_step bl_ hb); have n2_ := Aside0.mk (hbox); have n3_ := Aside0.mk ((hz_ : w.heap.size ≤ gb1079)); have n4_ := Aside0.mk ((hz_ : w.heap.size ≤ gb1079)); have n5_ := Aside0.mk ((by rw [hg]; exact Nat.ne_of_lt (blk_lt (g := gb1078) (o := .cells #[.int .i64 a0_0, .int .i64 a0_1] 65 (0, 0)) (bk_ BK1078.out)) : gb1078 ≠ gb1079)); have n6_ := Aside0.mk ((by rw [hg]; exact Nat.ne_of_gt (blk_lt (g := gb1078) (o := .cells #[.int .i64 a0_0, .int .i64 a0_1] 65 (0, 0)) (bk_ BK1078.out)) : gb1079 ≠ gb1078)); clear BK1078; clear HB; have BK1078 := n0_; have HB := n1_; have BK1079 := n2_; have GW1079 := n3_; have GE1079 := n4_; have NB1078_1079 := n5_; have NB1079_1078 := n6_; clear n0_ n1_ n2_ n3_ n4_ n5_ n6_; clear hb hbox hg; have hnb7 := NB1078_1079.out; have hnc7 := NB1079_1078.out; have hcz8_0 : w6.cell? ⟨gb1078, 0, none⟩ = some (.int .i64 a0_0) := (blk_cell BK1078.out 0).trans rfl; have hcz8_1 : w6.cell? ⟨gb1078, 1, none⟩ = some (.int .i64 a0_1) := (blk_cell BK1078.out 1).trans rfl; have hfz8_0 := blk_frozen BK1078.out 0; have hfz8_1 := blk_frozen BK1078.out 1; have hcz9_0 : w6.cell? ⟨gb1079, 0, none⟩ = some (.int .i64 a1_0) := (blk_cell BK1079.out 0).trans rfl; have hcz9_1 : w6.cell? ⟨gb1079, 1, none⟩ = some (.int .i64 a1_1) := (blk_cell BK1079.out 1).trans rfl; have hfz9_0 := blk_frozen BK1079.out 0; have hfz9_1 := blk_frozen BK1079.out 1))
   go_ret
   exact ⟨by first | rfl | (simp [errW_none, errW_some] <;> rfl) | (simp [*, errW_none, errW_some] <;> rfl) | exact False.elim (Bool.noConfusion ((decide_eq_true (of_eq_true (by assumption))).symm.trans (by assumption))), bl_⟩
  ·rw [if_neg c4] at H
   have c4b0 : (a0_1 == a1_1) = false := beq_eq_false_iff_ne.mpr c4
   have c4b1 : (a0_1 != a1_1) = true := bne_iff_ne.mpr c4
   obtain rfl := Option.some.inj H
   go_enter Try.func130, Try.ntmps130
   go_wp2_with (first | ((with_reducible refine gate_dst (N := 2) rfl ?_); refine box_event ?hg (N := 2) ?hd (cs := #[.int .i64 a0_0, .int .i64 a0_1]) (t := 65) ?hr ?_; (case hd => rfl); (case hg => rfl); (case hr => first | (go_simp; done) | (go_simp; rfl)); intro gb1078 hg w10 hbox hb; have n0_ := Aside0.mk (below_step bl_ hb); have n1_ := Aside0.mk (hbox); have n2_ := Aside0.mk ((hz_ : w.heap.size ≤ gb1078)); have n3_ := Aside0.mk ((hz_ : w.heap.size ≤ gb1078)); clear HB; have HB := n0_; have BK1078 := n1_; have GW1078 := n2_; have GE1078 := n3_; clear n0_ n1_ n2_ n3_; clear hb hbox hg) | ((with_reducible refine gate_dst (N := 3) rfl ?_); refine box_event ?hg (N := 3) ?hd (cs := #[.int .i64 a1_0, .int .i64 a1_1]) (t := 65) ?hr ?_; (case hd => rfl); (case hg => rfl); (case hr => first | (go_simp; done) | (go_simp; rfl)); intro gb1079 hg w11 hbox hb; have n0_ := Aside0.mk (blk_below (g := gb1078) (o := .cells #[.int .i64 a0_0, .int .i64 a0_1] 65 (0, 0)) (bk_ BK1078.out) hb); have n1_ := Aside0.mk (below_step bl_ hb); have n2_ := Aside0.mk (hbox); have n3_ := Aside0.mk ((hz_ : w.heap.size ≤ gb1079)); have n4_ := Aside0.mk ((hz_ : w.heap.size ≤ gb1079)); have n5_ := Aside0.mk ((by rw [hg]; exact Nat.ne_of_lt (blk_lt (g := gb1078) (o := .cells #[.int .i64 a0_0, .int .i64 a0_1] 65 (0, 0)) (bk_ BK1078.out)) : gb1078 ≠ gb1079)); have n6_ := Aside0.mk ((by rw [hg]; exact Nat.ne_of_gt (blk_lt (g := gb1078) (o := .cells #[.int .i64 a0_0, .int .i64 a0_1] 65 (0, 0)) (bk_ BK1078.out)) : gb1079 ≠ gb1078)); clear BK1078; clear HB; have BK1078 := n0_; have HB := n1_; have BK1079 := n2_; have GW1079 := n3_; have GE1079 := n4_; have NB1078_1079 := n5_; have NB1079_1078 := n6_; clear n0_ n1_ n2_ n3_ n4_ n5_ n6_; clear hb hbox hg; have hnb12 := NB1078_1079.out; have hnc12 := NB1079_1078.out; have hcz13_0 : w11.cell? ⟨gb1078, 0, none⟩ = some (.int .i64 a0_0) := (blk_cell BK1078.out 0).trans rfl; have hcz13_1 : w11.cell? ⟨gb1078, 1, none⟩ = some (.int .i64 a0_1) := (blk_cell BK1078.out 1).trans rfl; have hfz13_0 := blk_frozen BK1078.out 0; have hfz13_1 := blk_frozen BK1078.out 1; have hcz14_0 : w11.cell? ⟨gb1079, 0, none⟩ = some (.int .i64 a1_0) := (blk_cell BK1079.out 0).trans rfl; have hcz14_1 : w11.cell? ⟨gb1079, 1, none⟩ = some (.int .i64 a1_1) := (blk_cell BK1079.out 1).trans rfl; have hfz14_0 := blk_frozen BK1079.out 0; have hfz14_1 := blk_frozen BK1079.out 1))
   go_ret
   exact ⟨by first | rfl | (simp [errW_none, errW_some] <;> rfl) | (simp [*, errW_none, errW_some] <;> rfl) | exact False.elim (Bool.noConfusion ((decide_eq_true (of_eq_true (by assumption))).symm.trans (by assumption))), bl_⟩
 ·rw [if_neg c3] at H
  have c3b0 : (a0_0 == a1_0) = false := beq_eq_false_iff_ne.mpr c3
  have c3b1 : (a0_0 != a1_0) = true := bne_iff_ne.mpr c3
  obtain rfl := Option.some.inj H
  go_enter Try.func130, Try.ntmps130
  go_wp2_with (first | ((with_reducible refine gate_dst (N := 2) rfl ?_); refine box_event ?hg (N := 2) ?hd (cs := #[.int .i64 a0_0, .int .i64 a0_1]) (t := 65) ?hr ?_; (case hd => rfl); (case hg => rfl); (case hr => first | (go_simp; done) | (go_simp; rfl)); intro gb1078 hg w15 hbox hb; have n0_ := Aside0.mk (below_step bl_ hb); have n1_ := Aside0.mk (hbox); have n2_ := Aside0.mk ((hz_ : w.heap.size ≤ gb1078)); have n3_ := Aside0.mk ((hz_ : w.heap.size ≤ gb1078)); clear HB; have HB := n0_; have BK1078 := n1_; have GW1078 := n2_; have GE1078 := n3_; clear n0_ n1_ n2_ n3_; clear hb hbox hg) | ((with_reducible refine gate_dst (N := 3) rfl ?_); refine box_event ?hg (N := 3) ?hd (cs := #[.int .i64 a1_0, .int .i64 a1_1]) (t := 65) ?hr ?_; (case hd => rfl); (case hg => rfl); (case hr => first | (go_simp; done) | (go_simp; rfl)); intro gb1079 hg w16 hbox hb; have n0_ := Aside0.mk (blk_below (g := gb1078) (o := .cells #[.int .i64 a0_0, .int .i64 a0_1] 65 (0, 0)) (bk_ BK1078.out) hb); have n1_ := Aside0.mk (below_step bl_ hb); have n2_ := Aside0.mk (hbox); have n3_ := Aside0.mk ((hz_ : w.heap.size ≤ gb1079)); have n4_ := Aside0.mk ((hz_ : w.heap.size ≤ gb1079)); have n5_ := Aside0.mk ((by rw [hg]; exact Nat.ne_of_lt (blk_lt (g := gb1078) (o := .cells #[.int .i64 a0_0, .int .i64 a0_1] 65 (0, 0)) (bk_ BK1078.out)) : gb1078 ≠ gb1079)); have n6_ := Aside0.mk ((by rw [hg]; exact Nat.ne_of_gt (blk_lt (g := gb1078) (o := .cells #[.int .i64 a0_0, .int .i64 a0_1] 65 (0, 0)) (bk_ BK1078.out)) : gb1079 ≠ gb1078)); clear BK1078; clear HB; have BK1078 := n0_; have HB := n1_; have BK1079 := n2_; have GW1079 := n3_; have GE1079 := n4_; have NB1078_1079 := n5_; have NB1079_1078 := n6_; clear n0_ n1_ n2_ n3_ n4_ n5_ n6_; clear hb hbox hg; have hnb17 := NB1078_1079.out; have hnc17 := NB1079_1078.out; have hcz18_0 : w16.cell? ⟨gb1078, 0, none⟩ = some (.int .i64 a0_0) := (blk_cell BK1078.out 0).trans rfl; have hcz18_1 : w16.cell? ⟨gb1078, 1, none⟩ = some (.int .i64 a0_1) := (blk_cell BK1078.out 1).trans rfl; have hfz18_0 := blk_frozen BK1078.out 0; have hfz18_1 := blk_frozen BK1078.out 1; have hcz19_0 : w16.cell? ⟨gb1079, 0, none⟩ = some (.int .i64 a1_0) := (blk_cell BK1079.out 0).trans rfl; have hcz19_1 : w16.cell? ⟨gb1079, 1, none⟩ = some (.int .i64 a1_1) := (blk_cell BK1079.out 1).trans rfl; have hfz19_0 := blk_frozen BK1079.out 0; have hfz19_1 := blk_frozen BK1079.out 1))
  go_ret
  exact ⟨by first | rfl | (simp [errW_none, errW_some] <;> rfl) | (simp [*, errW_none, errW_some] <;> rfl) | exact False.elim (Bool.noConfusion ((decide_eq_true (of_eq_true (by assumption))).symm.trans (by assumption))), bl_⟩


/-! ### laws_eqTallyS: function 51 -/
def laws_eqTallyS.l0 : Nat → List (S65) → List (S65) → Int → Option (Bool)
 | 0, _, _, _ => none
 | k + 1, x0, x1, x5 => if x5 < (x0.length : Int) then (if 0 ≤ x5 then (if x5 < (x1.length : Int) then ((laws_eqTally.f ((rd_T65 x0 x5).f0) ((rd_T65 x0 x5).f1) ((rd_T65 x1 x5).f0) ((rd_T65 x1 x5).f1)).bind fun t1082 => (if t1082 = true then (laws_eqTallyS.l0 k x0 x1 (wrap64 (x5 + 1))) else (some false))) else (none)) else (none)) else (some true)
def laws_eqTallyS.f (k : Nat) (l0 : List (S65)) (l1 : List (S65)) : Option (Bool) := if (l0.length : Int) = (l1.length : Int) then (laws_eqTallyS.l0 k l0 l1 0) else (some false)
theorem laws_eqTallyS.mono_l : ∀ k, (∀ y0 y1 y2, LeO (laws_eqTallyS.l0 k y0 y1 y2) (laws_eqTallyS.l0 (k + 1) y0 y1 y2))
 | 0 => fun _ _ _ r h => by simp [laws_eqTallyS.l0] at h
 | k + 1 => by
  have ih0 := laws_eqTallyS.mono_l k
  ·intro y0 y1 y2
   unfold laws_eqTallyS.l0
   repeat' first
   | (with_reducible exact ih0 _ _ _)
   | (with_reducible exact LeO.refl _)
   | (with_reducible exact LeO.none _)
   | (with_reducible refine LeO.ite ?_ ?_)
   | (with_reducible refine LeO.bind ?_ (fun _ => ?_))
   | exact ih0 _ _ _
   | exact LeO.none _
   | refine LeO.ite ?_ ?_
   | refine LeO.bind ?_ (fun _ => ?_)
theorem laws_eqTallyS.mono : ∀ a0 a1 k, LeO (laws_eqTallyS.f k a0 a1) (laws_eqTallyS.f (k + 1) a0 a1) := by
 intro a0 a1 k
 have ih0 := laws_eqTallyS.mono_l k
 unfold laws_eqTallyS.f
 repeat' first
  | (with_reducible exact ih0 _ _ _)
  | (with_reducible exact LeO.refl _)
  | (with_reducible exact LeO.none _)
  | (with_reducible refine LeO.ite ?_ ?_)
  | (with_reducible refine LeO.bind ?_ (fun _ => ?_))
  | exact ih0 _ _ _
  | exact LeO.none _
  | refine LeO.ite ?_ ?_
  | refine LeO.bind ?_ (fun _ => ?_)
def laws_eqTallyS.T6 : Bool × List (List Nat × List Nat) := (true, [([], []), ([], []), ([0, 1], [0, 1]), ([2], [2]), ([], []), ([], []), ([4, 5], [4, 5]), ([6], [6]), ([3, 7], [3, 7]), ([8], [8])])
def laws_eqTallyS.B6 : List Nat := [0, 0, 3, 7, 0, 0, 48, 112, 255, 511]
theorem laws_eqTallyS.tab6 : rtab .any (opsOf Try.f51 6) = laws_eqTallyS.T6 := by kernel_rfl
theorem laws_eqTallyS.bits6 : waitsOk laws_eqTallyS.T6.2 laws_eqTallyS.B6 = true := by kernel_rfl
set_option maxHeartbeats 8000000 in
set_option maxRecDepth 100000 in
theorem laws_eqTallyS.calls (k : Nat) (A0 : Option Addr) (c0 : Nat) (l0 : List (S65)) (A1 : Option Addr) (c1 : Nat) (l1 : List (S65)) (r : Bool) (w : World) (hr0 : Kd.C k65 w A0 l0.length l0) (hc0 : l0.length ≤ c0) (hr1 : Kd.C k65 w A1 l1.length l1) (hc1 : l1.length ≤ c1) (h : laws_eqTallyS.f k l0 l1 = some r) :
 Calls Try.prog 51 #[.slice A0 l0.length c0, .slice A1 l1.length c1] w fun e w' => e = .returned (.bool r) ∧ Below w.heap.size w w' := by
 have hu65 := Try.underlying65
 have HR0 := Aside0.mk hr0
 have HC0 := Aside0.mk hc0
 clear hr0 hc0
 have HR1 := Aside0.mk hr1
 have HC1 := Aside0.mk hc1
 clear hr1 hc1
 have HB := Aside0.mk (Below.refl w.heap.size w)
 have H : (if (l0.length : Int) = (l1.length : Int) then (laws_eqTallyS.l0 k l0 l1 0) else (some false)) = some r := h
 clear h
 by_cases c3 : (l0.length : Int) = (l1.length : Int)
 ·rw [if_pos c3] at H
  have c3b0 : ((l0.length : Int) == (l1.length : Int)) = true := beq_iff_eq.mpr c3
  have c3b1 : ((l0.length : Int) != (l1.length : Int)) = false := bne_eq_false_iff_eq.mpr c3
  have c3b2 : (l0.length == l1.length) = true := by first | simpa using c3 | (simp at c3 ⊢; omega)
  clear c3
  have H' := Aside0.mk H
  clear H
  go_enter Try.func51, Try.ntmps51
  go_wp2
  go_loopg [5] k (fun kq v5 w' => ∃ (x5_1 : Int), v5 = .int .i64 x5_1 ∧ Aside0 (laws_eqTallyS.l0 kq l0 l1 x5_1 = some r) ∧ Aside0 (kq ≤ k) ∧ Aside0 (Below w.heap.size w w'))
  case atStart => exact ⟨(0), (by first | rfl | (simp; done) | (simp [*]; done)), H', ⟨Nat.le_refl _⟩, ⟨bl_⟩⟩
  case round =>
   clear H'
   try clear c1
   try clear p2
   try clear c3
   try clear c3b0
   try clear c3b1
   try clear c3b2
   obtain ⟨x5_1, rfl, HA, HK1, HB⟩ := hrel
   cases gk with
   | zero => exact absurd HA.out (by simp [laws_eqTallyS.l0])
   | succ k1 =>
    have H := HA.out
    clear HA
    simp only [laws_eqTallyS.l0] at H
    by_cases c4 : x5_1 < (l0.length : Int)
    ·rw [if_pos c4] at H
     have c4b0 : decide (x5_1 < (l0.length : Int)) = true := decide_eq_true c4
     clear c4
     by_cases c5 : 0 ≤ x5_1
     ·rw [if_pos c5] at H
      have c5b0 : decide (0 ≤ x5_1) = true := decide_eq_true c5
      clear c5
      by_cases c6 : x5_1 < (l1.length : Int)
      ·rw [if_pos c6] at H
       have c6b0 : decide (x5_1 < (l1.length : Int)) = true := decide_eq_true c6
       clear c6
       replace H := Option.bind_eq_some_iff.mp H
       obtain ⟨t1082, A70, H⟩ := H
       try dsimp only at H
       have A7 := Aside0.mk A70
       clear A70
       by_cases c8 : t1082 = true
       ·subst c8
        rw [if_pos rfl] at H
        have H' := Aside0.mk H
        clear H
        try go_wp2
        have n0_ := Aside0.mk (below_drew1 HB.out)
        clear HB
        have HB := n0_
        clear n0_
        have p1080 : 0 ≤ (x5_1 : Int) := of_decide_eq_true as_
        have q1080 : x5_1 < (l0.length : Int) := of_decide_eq_true as_
        obtain ⟨ad1080, e1080, hx1080_0, hx1080_1⟩ := at_T65 HR0.out x5_1 p1080 q1080
        have hw1080_1 := hx1080_1
        have hw1080_0 := hx1080_0
        cases e1080
        replace hx1080_0 := (HB.out.cell (World.block_lt_of_cell? w _ hx1080_0)).trans hx1080_0
        replace hx1080_1 := (HB.out.cell (World.block_lt_of_cell? w _ hx1080_1)).trans hx1080_1
        replace p1080 := eq_true p1080
        replace q1080 := eq_true q1080
        have p1081 : 0 ≤ (x5_1 : Int) := of_decide_eq_true as_
        have q1081 : x5_1 < (l1.length : Int) := of_decide_eq_true as_
        obtain ⟨ad1081, e1081, hx1081_0, hx1081_1⟩ := at_T65 HR1.out x5_1 p1081 q1081
        have hw1081_1 := hx1081_1
        have hw1081_0 := hx1081_0
        cases e1081
        replace hx1081_0 := (HB.out.cell (World.block_lt_of_cell? w _ hx1081_0)).trans hx1081_0
        replace hx1081_1 := (HB.out.cell (World.block_lt_of_cell? w _ hx1081_1)).trans hx1081_1
        replace p1081 := eq_true p1081
        replace q1081 := eq_true q1081
        refine start_ (n := 10) (S := fun w' => w'.cell? (ad1080.add ((x5_1).toNat * 2)) = some (.int .i64 ((rd_T65 l0 x5_1).f0)) ∧ w'.cell? ⟨(ad1080.add ((x5_1).toNat * 2)).block, (ad1080.add ((x5_1).toNat * 2)).off + 1, none⟩ = some (.int .i64 ((rd_T65 l0 x5_1).f1)) ∧ w'.cell? (ad1081.add ((x5_1).toNat * 2)) = some (.int .i64 ((rd_T65 l1 x5_1).f0)) ∧ w'.cell? ⟨(ad1081.add ((x5_1).toNat * 2)).block, (ad1081.add ((x5_1).toNat * 2)).off + 1, none⟩ = some (.int .i64 ((rd_T65 l1 x5_1).f1))) (ds := []) #[false, false, false, false, false, false, false, false, false, false] (by kernel_rfl) rfl rfl ⟨((HB.out.cell (World.block_lt_of_cell? w _ hw1080_0)).trans hw1080_0), ((HB.out.cell (World.block_lt_of_cell? w _ hw1080_1)).trans hw1080_1), ((HB.out.cell (World.block_lt_of_cell? w _ hw1081_0)).trans hw1081_0), ((HB.out.cell (World.block_lt_of_cell? w _ hw1081_1)).trans hw1081_1)⟩ (fun hHeld => ?_); refine with_tabW laws_eqTallyS.tab6 laws_eqTallyS.bits6 (fun HT_ HW_ => ?_)
        generalize wr.drew = w9 at HB hx1080_0 hx1080_1 hx1081_0 hx1081_1 hHeld ⊢
        refine pure_ (i := 0) (N := some 17) (v := ?_) (a' := ?_) #[true, false, false, false, false, false, false, false, false, false] rfl rfl (any_of HT_.out (by kernel_rfl)) (fun _ _ _ h => h) (Or.inl ⟨by rfl, ?_⟩) ?_ ?_
        rotate_left
        ·intro w'
         go_simp
         with_reducible rfl
        rotate_left
        ·simp only [Act.put, List.setIfInBounds_toArray, List.set_cons_zero, List.set_cons_succ, i64_w, i32_w]
         rfl
        refine pure_ (i := 1) (N := some 18) (v := ?_) (a' := ?_) #[true, true, false, false, false, false, false, false, false, false] rfl rfl (any_of HT_.out (by kernel_rfl)) (fun _ _ _ h => h) (Or.inl ⟨by rfl, ?_⟩) ?_ ?_
        rotate_left
        ·intro w'
         go_simp
         with_reducible rfl
        rotate_left
        ·simp only [Act.put, List.setIfInBounds_toArray, List.set_cons_zero, List.set_cons_succ, i64_w, i32_w]
         rfl
        refine pure_ (i := 2) (N := some 19) (v := ?_) (a' := ?_) #[true, true, true, false, false, false, false, false, false, false] rfl rfl (any_of HT_.out (by kernel_rfl)) (fun _ _ _ h => h) (Or.inl ⟨by rfl, ?_⟩) ?_ ?_
        rotate_left
        ·intro w'
         go_simp
         with_reducible rfl
        rotate_left
        ·simp only [Act.put, List.setIfInBounds_toArray, List.set_cons_zero, List.set_cons_succ, i64_w, i32_w]
         rfl
        refine pure_ (i := 4) (N := some 21) (v := ?_) (a' := ?_) #[true, true, true, false, true, false, false, false, false, false] rfl rfl (any_of HT_.out (by kernel_rfl)) (fun _ _ _ h => h) (Or.inl ⟨by rfl, ?_⟩) ?_ ?_
        rotate_left
        ·intro w'
         go_simp
         with_reducible rfl
        rotate_left
        ·simp only [Act.put, List.setIfInBounds_toArray, List.set_cons_zero, List.set_cons_succ, i64_w, i32_w]
         rfl
        refine pure_ (i := 5) (N := some 22) (v := ?_) (a' := ?_) #[true, true, true, false, true, true, false, false, false, false] rfl rfl (any_of HT_.out (by kernel_rfl)) (fun _ _ _ h => h) (Or.inl ⟨by rfl, ?_⟩) ?_ ?_
        rotate_left
        ·intro w'
         go_simp
         with_reducible rfl
        rotate_left
        ·simp only [Act.put, List.setIfInBounds_toArray, List.set_cons_zero, List.set_cons_succ, i64_w, i32_w]
         rfl
        refine pure_ (i := 6) (N := some 23) (v := ?_) (a' := ?_) #[true, true, true, false, true, true, true, false, false, false] rfl rfl (any_of HT_.out (by kernel_rfl)) (fun _ _ _ h => h) (Or.inl ⟨by rfl, ?_⟩) ?_ ?_
        rotate_left
        ·intro w'
         go_simp
         with_reducible rfl
        rotate_left
        ·simp only [Act.put, List.setIfInBounds_toArray, List.set_cons_zero, List.set_cons_succ, i64_w, i32_w]
         rfl
        refine take_ (i := 3) (N := some 20) (v := ?_) (a' := ?_) #[true, true, true, true, true, true, true, false, false, false] rfl rfl (take_ofW HT_.out HW_.out (by kernel_rfl)) (fun _ _ _ h => h) (Or.inl ⟨by rfl, ?_⟩) hHeld ?_ ?_
        rotate_left
        ·rintro w' ⟨s0, s1, s2, s3⟩
         go_simp
         with_reducible rfl
        rotate_left
        ·simp only [Act.put, List.setIfInBounds_toArray, List.set_cons_zero, List.set_cons_succ, i64_w, i32_w]
         rfl
        refine take_ (i := 7) (N := some 24) (v := ?_) (a' := ?_) #[true, true, true, true, true, true, true, true, false, false] rfl rfl (take_ofW HT_.out HW_.out (by kernel_rfl)) (fun _ _ _ h => h) (Or.inl ⟨by rfl, ?_⟩) hHeld ?_ ?_
        rotate_left
        ·rintro w' ⟨s0, s1, s2, s3⟩
         go_simp
         with_reducible rfl
        rotate_left
        ·simp only [Act.put, List.setIfInBounds_toArray, List.set_cons_zero, List.set_cons_succ, i64_w, i32_w]
         rfl
        refine one_ (i := 8) (N := some 25) #[true, true, true, true, true, true, true, true, true, false] rfl rfl (one_of HT_.out (by kernel_rfl)) (by decide) (fun K hK => ?_)
        refine goes_ Try.func130 (by kernel_rfl) rfl #[.agg #[.int .i64 ((rd_T65 l0 x5_1).f0), .int .i64 ((rd_T65 l0 x5_1).f1)], .agg #[.int .i64 ((rd_T65 l1 x5_1).f0), .int .i64 ((rd_T65 l1 x5_1).f1)]] (by rfl) rfl rfl lm_ ?_
        with_reducible refine (laws_eqTally.calls ((rd_T65 l0 x5_1).f0) ((rd_T65 l0 x5_1).f1) ((rd_T65 l1 x5_1).f0) ((rd_T65 l1 x5_1).f1) true _ A7.out).mono ?_
        rintro e w10 ⟨rfl, hb⟩
        refine ⟨_, rfl, ?_⟩
        have n0_ := Aside0.mk (below_step bl_ hb)
        clear HB
        have HB := n0_
        clear n0_
        (try clear hb)
        (try clear hb2)
        (try clear hk)
        (try clear hi)
        refine hK.out _ _ ⟨((HB.out.cell (World.block_lt_of_cell? w _ hw1080_0)).trans hw1080_0), ((HB.out.cell (World.block_lt_of_cell? w _ hw1080_1)).trans hw1080_1), ((HB.out.cell (World.block_lt_of_cell? w _ hw1081_0)).trans hw1081_0), ((HB.out.cell (World.block_lt_of_cell? w _ hw1081_1)).trans hw1081_1)⟩ (fun hHeld => ?_)
        clear hK K
        refine norm_ (a' := ?_) ?_ ?_
        rotate_left
        ·show Act.put _ (some 25) _ = _
         simp only [Act.put, List.setIfInBounds_toArray, List.set_cons_zero, List.set_cons_succ, i64_w, i32_w]
         rfl
        refine pure_ (i := 9) (N := some 26) (v := ?_) (a' := ?_) #[true, true, true, true, true, true, true, true, true, true] rfl rfl (any_of HT_.out (by kernel_rfl)) (fun _ _ _ h => h) (Or.inl ⟨by rfl, ?_⟩) ?_ ?_
        rotate_left
        ·intro w'
         go_simp
         with_reducible rfl
        rotate_left
        ·simp only [Act.put, List.setIfInBounds_toArray, List.set_cons_zero, List.set_cons_succ, i64_w, i32_w]
         rfl
        refine done_ (done_of HT_.out (by kernel_rfl)) ?_
        try go_wp2
        go_roundg k1
        case measure => have := HK1.out; omega
        case rel => exact ⟨(wrap64 (x5_1 + 1)), (by first | rfl | (simp; done) | (simp [*]; done)), H', ⟨by have := HK1.out; omega⟩, ⟨bl_⟩⟩
       ·replace c8 := Bool.eq_false_iff.mpr c8
        subst c8
        rw [if_neg (show ¬ (false = true) by decide)] at H
        obtain rfl := Option.some.inj H
        try go_wp2
        have n0_ := Aside0.mk (below_drew1 HB.out)
        clear HB
        have HB := n0_
        clear n0_
        have p1080 : 0 ≤ (x5_1 : Int) := of_decide_eq_true as_
        have q1080 : x5_1 < (l0.length : Int) := of_decide_eq_true as_
        obtain ⟨ad1080, e1080, hx1080_0, hx1080_1⟩ := at_T65 HR0.out x5_1 p1080 q1080
        have hw1080_1 := hx1080_1
        have hw1080_0 := hx1080_0
        cases e1080
        replace hx1080_0 := (HB.out.cell (World.block_lt_of_cell? w _ hx1080_0)).trans hx1080_0
        replace hx1080_1 := (HB.out.cell (World.block_lt_of_cell? w _ hx1080_1)).trans hx1080_1
        replace p1080 := eq_true p1080
        replace q1080 := eq_true q1080
        have p1081 : 0 ≤ (x5_1 : Int) := of_decide_eq_true as_
        have q1081 : x5_1 < (l1.length : Int) := of_decide_eq_true as_
        obtain ⟨ad1081, e1081, hx1081_0, hx1081_1⟩ := at_T65 HR1.out x5_1 p1081 q1081
        have hw1081_1 := hx1081_1
        have hw1081_0 := hx1081_0
        cases e1081
        replace hx1081_0 := (HB.out.cell (World.block_lt_of_cell? w _ hx1081_0)).trans hx1081_0
        replace hx1081_1 := (HB.out.cell (World.block_lt_of_cell? w _ hx1081_1)).trans hx1081_1
        replace p1081 := eq_true p1081
        replace q1081 := eq_true q1081
        refine start_ (n := 10) (S := fun w' => w'.cell? (ad1080.add ((x5_1).toNat * 2)) = some (.int .i64 ((rd_T65 l0 x5_1).f0)) ∧ w'.cell? ⟨(ad1080.add ((x5_1).toNat * 2)).block, (ad1080.add ((x5_1).toNat * 2)).off + 1, none⟩ = some (.int .i64 ((rd_T65 l0 x5_1).f1)) ∧ w'.cell? (ad1081.add ((x5_1).toNat * 2)) = some (.int .i64 ((rd_T65 l1 x5_1).f0)) ∧ w'.cell? ⟨(ad1081.add ((x5_1).toNat * 2)).block, (ad1081.add ((x5_1).toNat * 2)).off + 1, none⟩ = some (.int .i64 ((rd_T65 l1 x5_1).f1))) (ds := []) #[false, false, false, false, false, false, false, false, false, false] (by kernel_rfl) rfl rfl ⟨((HB.out.cell (World.block_lt_of_cell? w _ hw1080_0)).trans hw1080_0), ((HB.out.cell (World.block_lt_of_cell? w _ hw1080_1)).trans hw1080_1), ((HB.out.cell (World.block_lt_of_cell? w _ hw1081_0)).trans hw1081_0), ((HB.out.cell (World.block_lt_of_cell? w _ hw1081_1)).trans hw1081_1)⟩ (fun hHeld => ?_); refine with_tabW laws_eqTallyS.tab6 laws_eqTallyS.bits6 (fun HT_ HW_ => ?_)
        generalize wr.drew = w11 at HB hx1080_0 hx1080_1 hx1081_0 hx1081_1 hHeld ⊢
        refine pure_ (i := 0) (N := some 17) (v := ?_) (a' := ?_) #[true, false, false, false, false, false, false, false, false, false] rfl rfl (any_of HT_.out (by kernel_rfl)) (fun _ _ _ h => h) (Or.inl ⟨by rfl, ?_⟩) ?_ ?_
        rotate_left
        ·intro w'
         go_simp
         with_reducible rfl
        rotate_left
        ·simp only [Act.put, List.setIfInBounds_toArray, List.set_cons_zero, List.set_cons_succ, i64_w, i32_w]
         rfl
        refine pure_ (i := 1) (N := some 18) (v := ?_) (a' := ?_) #[true, true, false, false, false, false, false, false, false, false] rfl rfl (any_of HT_.out (by kernel_rfl)) (fun _ _ _ h => h) (Or.inl ⟨by rfl, ?_⟩) ?_ ?_
        rotate_left
        ·intro w'
         go_simp
         with_reducible rfl
        rotate_left
        ·simp only [Act.put, List.setIfInBounds_toArray, List.set_cons_zero, List.set_cons_succ, i64_w, i32_w]
         rfl
        refine pure_ (i := 2) (N := some 19) (v := ?_) (a' := ?_) #[true, true, true, false, false, false, false, false, false, false] rfl rfl (any_of HT_.out (by kernel_rfl)) (fun _ _ _ h => h) (Or.inl ⟨by rfl, ?_⟩) ?_ ?_
        rotate_left
        ·intro w'
         go_simp
         with_reducible rfl
        rotate_left
        ·simp only [Act.put, List.setIfInBounds_toArray, List.set_cons_zero, List.set_cons_succ, i64_w, i32_w]
         rfl
        refine pure_ (i := 4) (N := some 21) (v := ?_) (a' := ?_) #[true, true, true, false, true, false, false, false, false, false] rfl rfl (any_of HT_.out (by kernel_rfl)) (fun _ _ _ h => h) (Or.inl ⟨by rfl, ?_⟩) ?_ ?_
        rotate_left
        ·intro w'
         go_simp
         with_reducible rfl
        rotate_left
        ·simp only [Act.put, List.setIfInBounds_toArray, List.set_cons_zero, List.set_cons_succ, i64_w, i32_w]
         rfl
        refine pure_ (i := 5) (N := some 22) (v := ?_) (a' := ?_) #[true, true, true, false, true, true, false, false, false, false] rfl rfl (any_of HT_.out (by kernel_rfl)) (fun _ _ _ h => h) (Or.inl ⟨by rfl, ?_⟩) ?_ ?_
        rotate_left
        ·intro w'
         go_simp
         with_reducible rfl
        rotate_left
        ·simp only [Act.put, List.setIfInBounds_toArray, List.set_cons_zero, List.set_cons_succ, i64_w, i32_w]
         rfl
        refine pure_ (i := 6) (N := some 23) (v := ?_) (a' := ?_) #[true, true, true, false, true, true, true, false, false, false] rfl rfl (any_of HT_.out (by kernel_rfl)) (fun _ _ _ h => h) (Or.inl ⟨by rfl, ?_⟩) ?_ ?_
        rotate_left
        ·intro w'
         go_simp
         with_reducible rfl
        rotate_left
        ·simp only [Act.put, List.setIfInBounds_toArray, List.set_cons_zero, List.set_cons_succ, i64_w, i32_w]
         rfl
        refine take_ (i := 3) (N := some 20) (v := ?_) (a' := ?_) #[true, true, true, true, true, true, true, false, false, false] rfl rfl (take_ofW HT_.out HW_.out (by kernel_rfl)) (fun _ _ _ h => h) (Or.inl ⟨by rfl, ?_⟩) hHeld ?_ ?_
        rotate_left
        ·rintro w' ⟨s0, s1, s2, s3⟩
         go_simp
         with_reducible rfl
        rotate_left
        ·simp only [Act.put, List.setIfInBounds_toArray, List.set_cons_zero, List.set_cons_succ, i64_w, i32_w]
         rfl
        refine take_ (i := 7) (N := some 24) (v := ?_) (a' := ?_) #[true, true, true, true, true, true, true, true, false, false] rfl rfl (take_ofW HT_.out HW_.out (by kernel_rfl)) (fun _ _ _ h => h) (Or.inl ⟨by rfl, ?_⟩) hHeld ?_ ?_
        rotate_left
        ·rintro w' ⟨s0, s1, s2, s3⟩
         go_simp
         with_reducible rfl
        rotate_left
        ·simp only [Act.put, List.setIfInBounds_toArray, List.set_cons_zero, List.set_cons_succ, i64_w, i32_w]
         rfl
        refine one_ (i := 8) (N := some 25) #[true, true, true, true, true, true, true, true, true, false] rfl rfl (one_of HT_.out (by kernel_rfl)) (by decide) (fun K hK => ?_)
        refine goes_ Try.func130 (by kernel_rfl) rfl #[.agg #[.int .i64 ((rd_T65 l0 x5_1).f0), .int .i64 ((rd_T65 l0 x5_1).f1)], .agg #[.int .i64 ((rd_T65 l1 x5_1).f0), .int .i64 ((rd_T65 l1 x5_1).f1)]] (by rfl) rfl rfl lm_ ?_
        with_reducible refine (laws_eqTally.calls ((rd_T65 l0 x5_1).f0) ((rd_T65 l0 x5_1).f1) ((rd_T65 l1 x5_1).f0) ((rd_T65 l1 x5_1).f1) false _ A7.out).mono ?_
        rintro e w12 ⟨rfl, hb⟩
        refine ⟨_, rfl, ?_⟩
        have n0_ := Aside0.mk (below_step bl_ hb)
        clear HB
        have HB := n0_
        clear n0_
        (try clear hb)
        (try clear hb2)
        (try clear hk)
        (try clear hi)
        refine hK.out _ _ ⟨((HB.out.cell (World.block_lt_of_cell? w _ hw1080_0)).trans hw1080_0), ((HB.out.cell (World.block_lt_of_cell? w _ hw1080_1)).trans hw1080_1), ((HB.out.cell (World.block_lt_of_cell? w _ hw1081_0)).trans hw1081_0), ((HB.out.cell (World.block_lt_of_cell? w _ hw1081_1)).trans hw1081_1)⟩ (fun hHeld => ?_)
        clear hK K
        refine norm_ (a' := ?_) ?_ ?_
        rotate_left
        ·show Act.put _ (some 25) _ = _
         simp only [Act.put, List.setIfInBounds_toArray, List.set_cons_zero, List.set_cons_succ, i64_w, i32_w]
         rfl
        refine pure_ (i := 9) (N := some 26) (v := ?_) (a' := ?_) #[true, true, true, true, true, true, true, true, true, true] rfl rfl (any_of HT_.out (by kernel_rfl)) (fun _ _ _ h => h) (Or.inl ⟨by rfl, ?_⟩) ?_ ?_
        rotate_left
        ·intro w'
         go_simp
         with_reducible rfl
        rotate_left
        ·simp only [Act.put, List.setIfInBounds_toArray, List.set_cons_zero, List.set_cons_succ, i64_w, i32_w]
         rfl
        refine done_ (done_of HT_.out (by kernel_rfl)) ?_
        try go_wp2
        go_ret
        exact ⟨by first | rfl | (simp [errW_none, errW_some] <;> rfl) | (simp [*, errW_none, errW_some] <;> rfl) | exact False.elim (Bool.noConfusion ((decide_eq_true (of_eq_true (by assumption))).symm.trans (by assumption))), bl_⟩
      ·rw [if_neg c6] at H
       exact absurd H (by simp)
     ·rw [if_neg c5] at H
      exact absurd H (by simp)
    ·rw [if_neg c4] at H
     have c4b0 : decide (x5_1 < (l0.length : Int)) = false := decide_eq_false c4
     clear c4
     obtain rfl := Option.some.inj H
     go_wp2
     go_ret
     exact ⟨by first | rfl | (simp [errW_none, errW_some] <;> rfl) | (simp [*, errW_none, errW_some] <;> rfl) | exact False.elim (Bool.noConfusion ((decide_eq_true (of_eq_true (by assumption))).symm.trans (by assumption))), bl_⟩
 ·rw [if_neg c3] at H
  have c3b0 : ((l0.length : Int) == (l1.length : Int)) = false := beq_eq_false_iff_ne.mpr c3
  have c3b1 : ((l0.length : Int) != (l1.length : Int)) = true := bne_iff_ne.mpr c3
  have c3b2 : (l0.length == l1.length) = false := by first | simpa using c3 | (simp at c3 ⊢; omega)
  obtain rfl := Option.some.inj H
  go_enter Try.func51, Try.ntmps51
  go_wp2
  go_ret
  exact ⟨by first | rfl | (simp [errW_none, errW_some] <;> rfl) | (simp [*, errW_none, errW_some] <;> rfl) | exact False.elim (Bool.noConfusion ((decide_eq_true (of_eq_true (by assumption))).symm.trans (by assumption))), bl_⟩


/-! ### laws_markTallyS: function 52 -/
def laws_markTallyS.l0 : Nat → List (S65) → Int → Int → Option (Int × (List (S65)))
 | 0, _, _, _ => none
 | k + 1, x0, x1, x5 => if x5 < (x0.length : Int) then (if 0 ≤ x5 then ((some (x0.set (x5 : Int).toNat (⟨x1, (rd_T65 x0 x5).f1⟩ : S65) : List (S65))).bind fun y1083 => (laws_markTallyS.l0 k (y1083.set (x5 : Int).toNat (⟨(rd_T65 y1083 x5).f0, wrap64 (x1 + 1)⟩ : S65)) (wrap64 ((wrap64 (x1 + 1)) + 1)) (wrap64 (x5 + 1)))) else (none)) else (some (x1, x0))
def laws_markTallyS.f (k : Nat) (l0 : List (S65)) (a1 : Int) : Option (Int × (List (S65))) := laws_markTallyS.l0 k l0 a1 0
theorem laws_markTallyS.mono_l : ∀ k, (∀ y0 y1 y2, LeO (laws_markTallyS.l0 k y0 y1 y2) (laws_markTallyS.l0 (k + 1) y0 y1 y2))
 | 0 => fun _ _ _ r h => by simp [laws_markTallyS.l0] at h
 | k + 1 => by
  have ih0 := laws_markTallyS.mono_l k
  ·intro y0 y1 y2
   unfold laws_markTallyS.l0
   repeat' first
   | (with_reducible exact ih0 _ _ _)
   | (with_reducible exact LeO.refl _)
   | (with_reducible exact LeO.none _)
   | (with_reducible refine LeO.ite ?_ ?_)
   | (with_reducible refine LeO.bind ?_ (fun _ => ?_))
   | exact ih0 _ _ _
   | exact LeO.none _
   | refine LeO.ite ?_ ?_
   | refine LeO.bind ?_ (fun _ => ?_)
theorem laws_markTallyS.mono : ∀ a0 a1 k, LeO (laws_markTallyS.f k a0 a1) (laws_markTallyS.f (k + 1) a0 a1) := by
 intro a0 a1 k
 have ih0 := laws_markTallyS.mono_l k
 unfold laws_markTallyS.f
 repeat' first
  | (with_reducible exact ih0 _ _ _)
  | (with_reducible exact LeO.refl _)
  | (with_reducible exact LeO.none _)
  | (with_reducible refine LeO.ite ?_ ?_)
  | (with_reducible refine LeO.bind ?_ (fun _ => ?_))
  | exact ih0 _ _ _
  | exact LeO.none _
  | refine LeO.ite ?_ ?_
  | refine LeO.bind ?_ (fun _ => ?_)
set_option maxHeartbeats 8000000 in
set_option maxRecDepth 100000 in
theorem laws_markTallyS.calls (k : Nat) (P0_ : Nat → Prop) (u9000_ : Value) (l0 : List (S65)) (a1 : Int) (r1 : Int) (r2 : List (S65)) (w0 w : World) (hB : Below w0.heap.size w0 w) (ho0 : Kd.R k65 65 w w0.heap.size P0_ u9000_ l0) (h : laws_markTallyS.f k l0 a1 = some (r1, r2)) :
 Calls Try.prog 52 #[u9000_, .int .i64 a1] w fun e w' => e = .returned (.int .i64 r1) ∧ Kd.R k65 65 w' w0.heap.size (fun k_ => (P0_ k_ ∨ w.heap.size ≤ k_)) u9000_ r2 ∧ Below w0.heap.size w0 w' ∧ Kept w w' (fun k_ => P0_ k_) := by
 have HO0 := Aside0.mk (show Kd.R k65 65 w w0.heap.size (fun k_ => (P0_ k_ ∨ w.heap.size ≤ k_)) u9000_ l0 from Kd.R_mono ho0 (fun k_ hk => (.inl hk)))
 have HK := Aside0.mk (Kept.refl w (fun k_ => P0_ k_))
 have HW0 := Aside0.mk hB.size
 have HB := Aside0.mk hB
 clear hB
 have H : (laws_markTallyS.l0 k l0 a1 0) = some (r1, r2) := h
 clear h
 have H' := Aside0.mk H
 clear H
 go_enter Try.func52, Try.ntmps52
 go_wp2
 go_loopg [1, 5] k (fun kq v1 v5 w' => ∃ (x0_1 : List (S65)) (x1_1 : Int) (x5_1 : Int), v1 = .int .i64 x1_1 ∧ v5 = .int .i64 x5_1 ∧ Aside0 (laws_markTallyS.l0 kq x0_1 x1_1 x5_1 = some (r1, r2)) ∧ Aside0 (kq ≤ k) ∧ Aside0 (Kd.R k65 65 w' w0.heap.size (fun k_ => (P0_ k_ ∨ w.heap.size ≤ k_)) u9000_ x0_1) ∧ Aside0 (Kept w w' (fun k_ => P0_ k_)) ∧ Aside0 (Below w0.heap.size w0 w'))
 case atStart => exact ⟨(l0), (a1), (0), (by first | rfl | (simp; done) | (simp [*]; done)), (by first | rfl | (simp; done) | (simp [*]; done)), H', ⟨Nat.le_refl _⟩, ⟨ra_ HO0.out⟩, ⟨by repeat (first | (with_reducible first | exact HK.out | apply Kept.alloc | apply Kept.drewN | apply Kept.drew) | exact HK.out)⟩, ⟨bl_⟩⟩
 case round =>
  clear H'
  try clear p2
  obtain ⟨x0_1, x1_1, x5_1, rfl, rfl, HA, HK1, HO_0, HK, HB⟩ := hrel
  cases gk with
  | zero => exact absurd HA.out (by simp [laws_markTallyS.l0])
  | succ k1 =>
   have H := HA.out
   clear HA
   simp only [laws_markTallyS.l0] at H
   by_cases c3 : x5_1 < (x0_1.length : Int)
   ·rw [if_pos c3] at H
    have c3b0 : decide (x5_1 < (x0_1.length : Int)) = true := decide_eq_true c3
    clear c3
    by_cases c4 : 0 ≤ x5_1
    ·rw [if_pos c4] at H
     have c4b0 : decide (0 ≤ x5_1) = true := decide_eq_true c4
     clear c4
     obtain ⟨y1083, hy1083⟩ : ∃ y_ : List (S65), y_ = (x0_1.set (x5_1 : Int).toNat (⟨x1_1, (rd_T65 x0_1 x5_1).f1⟩ : S65)) := ⟨_, rfl⟩
     replace H : (laws_markTallyS.l0 k1 (y1083.set (x5_1 : Int).toNat (⟨(rd_T65 y1083 x5_1).f0, wrap64 (x1_1 + 1)⟩ : S65)) (wrap64 ((wrap64 (x1_1 + 1)) + 1)) (wrap64 (x5_1 + 1))) = some (r1, r2) := by first | (rw [hy1083]; with_reducible exact H) | (have H2_ := (Option.bind_some _ _).symm.trans H; rw [hy1083]; with_reducible exact H2_) | (have H2_ := (Option.bind_some _ _).symm.trans H; with_reducible exact H2_) | with_reducible exact H | (rw [hy1083]; exact H) | exact H
     have Ny1083 := Aside0.mk hy1083
     clear hy1083
     obtain ⟨y1084, hy1084⟩ : ∃ y_ : List (S65), y_ = (y1083.set (x5_1 : Int).toNat (⟨(rd_T65 y1083 x5_1).f0, wrap64 (x1_1 + 1)⟩ : S65)) := ⟨_, rfl⟩
     replace H : (laws_markTallyS.l0 k1 y1084 (wrap64 ((wrap64 (x1_1 + 1)) + 1)) (wrap64 (x5_1 + 1))) = some (r1, r2) := by first | (rw [hy1084]; with_reducible exact H) | (have H2_ := (Option.bind_some _ _).symm.trans H; rw [hy1084]; with_reducible exact H2_) | (have H2_ := (Option.bind_some _ _).symm.trans H; with_reducible exact H2_) | with_reducible exact H | (rw [hy1084]; exact H) | exact H
     have Ny1084 := Aside0.mk hy1084
     clear hy1084
     have H' := Aside0.mk H
     clear H
     obtain ⟨Ao7, co7, eo7⟩ := Kd.R_slice HO_0.out
     subst eo7
     have p5 : 0 ≤ (x5_1 : Int) := of_decide_eq_true as_
     have q5 : (x5_1 : Int) < ((x0_1.length : Int) : Int) := of_decide_eq_true as_
     obtain ⟨go5, co5, eo5, gb5, gl5, cl5, HG5⟩ := Kd.R_form HO_0.out (by omega)
     (first | cases eo5 | (injection eo5 with ea_ en_ ec_; (first | subst ea_ | (injection ea_ with ea_; subst ea_)); subst ec_; clear en_))
     have GB5 := Aside0.mk gb5
     have GG5 := Aside0.mk HG5
     clear gb5 gl5 HG5
     have HMgo5 := Aside0.mk (show (P0_ go5 ∨ w.heap.size ≤ go5) from (HO_0.out.1 _ rfl))
     obtain ⟨ce5, hcl5, hM5, hcc5, hfr5⟩ := Kd.R_elem HO_0.out z65 (x5_1 : Int) p5 q5
     obtain rfl := k65_openM hM5
     have hx5_0 : wr.cell? ⟨go5, (x5_1 : Int).toNat * 2, none⟩ = some (.int .i64 ((rd_T65 x0_1 x5_1).f0)) := hcc5 0 _ rfl
     have hx5_1 : wr.cell? ⟨go5, (x5_1 : Int).toNat * 2 + 1, none⟩ = some (.int .i64 ((rd_T65 x0_1 x5_1).f1)) := hcc5 1 _ rfl
     have hf5_0 : wr.frozen? ⟨go5, (x5_1 : Int).toNat * 2, none⟩ = false := hfr5 0
     have hf5_1 : wr.frozen? ⟨go5, (x5_1 : Int).toNat * 2 + 1, none⟩ = false := hfr5 1
     clear hcl5 hcc5 hfr5 hM5
     replace p5 := eq_true p5
     replace q5 := eq_true q5
     have HX8 := Aside0.mk (show Kd.R k65 65 wr w0.heap.size (fun k_ => (P0_ k_ ∨ w.heap.size ≤ k_)) (.slice (some ⟨go5, 0, none⟩) x0_1.length co7) x0_1 from (ra_ HO_0.out))
     obtain ⟨ce8, hcl8, hM8, hcc8, hfr8⟩ := Kd.R_elem HX8.out z65 (x5_1 : Int) (of_decide_eq_true as_) (by have h_ : (x5_1 : Int) < ((x0_1.length : Int) : Int) := of_decide_eq_true as_; first | exact h_ | (have e_ := (Kd.R_reads' HO_0.out).1; omega) | simpa using h_)
     obtain rfl := k65_openM hM8
     have HP8 := Kd.R_seg HX8.out (x5_1 : Int) (of_decide_eq_true as_) (by have h_ : (x5_1 : Int) < ((x0_1.length : Int) : Int) := of_decide_eq_true as_; first | exact h_ | (have e_ := (Kd.R_reads' HO_0.out).1; omega) | simpa using h_) (seg := [.int .i64 x1_1]) (j := 0) hcl8 hcc8 (show 1 ≤ 2 from by decide) (x' := (⟨x1_1, (rd_T65 x0_1 x5_1).f1⟩ : S65)) (k65_mkM _ _ _ (⟨x1_1, (rd_T65 x0_1 x5_1).f1⟩ : S65) ) (fun _ hk => hk)
     have hx8_0 := hcc8 0 _ rfl
     (try simp only [show (k65).sz = 2 from rfl, Nat.mul_one, Nat.add_zero] at hx8_0)
     have hf8_0 := hfr8 0
     (try simp only [show (k65).sz = 2 from rfl, Nat.mul_one, Nat.add_zero] at hf8_0)
     clear hcl8 hcc8 hfr8 hM8
     go_wp2_with (first | ((with_reducible refine gate_store (t := 3) (p := 16) rfl ?_); refine store_event (t := 3) (p := 16) (v := ?vo_w9) (w1 := (wr.setCell ⟨go5, (x5_1 : Int).toNat * 2, none⟩ (.int .i64 x1_1))) ?hg ?ho ?hn ?hr ?_; (case ho => rfl); (case hg => rfl); (case hn => rfl); (case hr => first | (go_simp; done) | (go_simp; rfl)); intro w9 hw; have hg : wr.grownBy w9 (some go5) := (by rw [hw]; exact HP8.2); have hp_ : Kd.R k65 65 w9 w0.heap.size (fun k_ => (P0_ k_ ∨ w.heap.size ≤ k_)) (.slice (some ⟨go5, 0, none⟩) x0_1.length co7) y1083 := (by rw [hw, Ny1083.out]; exact HP8.1); clear HP8; have n0_ := Aside0.mk (hp_); have n1_ := Aside0.mk ((by rw [hw]; exact below_set (HB.out) GB5.out : Below w0.heap.size w0 w9)); have n2_ := Aside0.mk (Kept.of_grown (S := (fun k_ => P0_ k_)) hg (by repeat (first | (with_reducible first | exact HK.out | apply Kept.alloc | apply Kept.drewN | apply Kept.drew) | exact HK.out)) (fun k_ e_ => (HO_0.out.1 k_ e_))); clear HO_0; clear HB; clear HK; have HO_0 := n0_; have HB := n1_; have HK := n2_; clear n0_ n1_ n2_; clear hg hw hp_; have p6 : 0 ≤ (x5_1 : Int) := of_decide_eq_true as_; have q6 : (x5_1 : Int) < ((x0_1.length : Int) : Int) := of_decide_eq_true as_; obtain ⟨ce6, hcl6, hM6, hcc6, hfr6⟩ := Kd.R_elem HO_0.out z65 (x5_1 : Int) p6 q6; obtain rfl := k65_openM hM6; have hx6_0 : w9.cell? ⟨go5, (x5_1 : Int).toNat * 2, none⟩ = some (.int .i64 ((rd_T65 y1083 x5_1).f0)) := hcc6 0 _ rfl; have hx6_1 : w9.cell? ⟨go5, (x5_1 : Int).toNat * 2 + 1, none⟩ = some (.int .i64 ((rd_T65 y1083 x5_1).f1)) := hcc6 1 _ rfl; have hf6_0 : w9.frozen? ⟨go5, (x5_1 : Int).toNat * 2, none⟩ = false := hfr6 0; have hf6_1 : w9.frozen? ⟨go5, (x5_1 : Int).toNat * 2 + 1, none⟩ = false := hfr6 1; clear hcl6 hcc6 hfr6 hM6; replace p6 := eq_true p6; replace q6 := eq_true q6; have HX10 := Aside0.mk (show Kd.R k65 65 w9 w0.heap.size (fun k_ => (P0_ k_ ∨ w.heap.size ≤ k_)) (.slice (some ⟨go5, 0, none⟩) x0_1.length co7) y1083 from (ra_ HO_0.out)); obtain ⟨ce10, hcl10, hM10, hcc10, hfr10⟩ := Kd.R_elem HX10.out z65 (x5_1 : Int) (of_decide_eq_true as_) (by have h_ : (x5_1 : Int) < ((x0_1.length : Int) : Int) := of_decide_eq_true as_; first | exact h_ | (have e_ := (Kd.R_reads' HO_0.out).1; omega) | simpa using h_); obtain rfl := k65_openM hM10; have HP10 := Kd.R_seg HX10.out (x5_1 : Int) (of_decide_eq_true as_) (by have h_ : (x5_1 : Int) < ((x0_1.length : Int) : Int) := of_decide_eq_true as_; first | exact h_ | (have e_ := (Kd.R_reads' HO_0.out).1; omega) | simpa using h_) (seg := [.int .i64 (wrap64 (x1_1 + 1))]) (j := 1) hcl10 hcc10 (show 2 ≤ 2 from by decide) (x' := (⟨(rd_T65 y1083 x5_1).f0, wrap64 (x1_1 + 1)⟩ : S65)) (k65_mkM _ _ _ (⟨(rd_T65 y1083 x5_1).f0, wrap64 (x1_1 + 1)⟩ : S65) ) (fun _ hk => hk); have hx10_1 := hcc10 1 _ rfl; (try simp only [show (k65).sz = 2 from rfl, Nat.mul_one, Nat.add_zero] at hx10_1); have hf10_1 := hfr10 1; (try simp only [show (k65).sz = 2 from rfl, Nat.mul_one, Nat.add_zero] at hf10_1); clear hcl10 hcc10 hfr10 hM10) | ((with_reducible refine gate_store (t := 3) (p := 23) rfl ?_); refine store_event (t := 3) (p := 23) (v := ?vo_w11) (w1 := (w9.setCell ⟨go5, (x5_1 : Int).toNat * 2 + 1, none⟩ (.int .i64 (wrap64 (x1_1 + 1))))) ?hg ?ho ?hn ?hr ?_; (case ho => rfl); (case hg => rfl); (case hn => rfl); (case hr => first | (go_simp; done) | (go_simp; rfl)); intro w11 hw; have hg : w9.grownBy w11 (some go5) := (by rw [hw]; exact HP10.2); have hp_ : Kd.R k65 65 w11 w0.heap.size (fun k_ => (P0_ k_ ∨ w.heap.size ≤ k_)) (.slice (some ⟨go5, 0, none⟩) x0_1.length co7) y1084 := (by rw [hw, Ny1084.out]; exact HP10.1); clear HP10; have n0_ := Aside0.mk (hp_); have n1_ := Aside0.mk ((by rw [hw]; exact below_set (HB.out) GB5.out : Below w0.heap.size w0 w11)); have n2_ := Aside0.mk (Kept.of_grown (S := (fun k_ => P0_ k_)) hg (by repeat (first | (with_reducible first | exact HK.out | apply Kept.alloc | apply Kept.drewN | apply Kept.drew) | exact HK.out)) (fun k_ e_ => (HO_0.out.1 k_ e_))); clear HO_0; clear HB; clear HK; have HO_0 := n0_; have HB := n1_; have HK := n2_; clear n0_ n1_ n2_; clear hg hw hp_))
     go_roundg k1
     case measure => have := HK1.out; omega
     case rel => exact ⟨(y1084), (wrap64 ((wrap64 (x1_1 + 1)) + 1)), (wrap64 (x5_1 + 1)), (by first | rfl | (simp; done) | (simp [*]; done)), (by first | rfl | (simp; done) | (simp [*]; done)), H', ⟨by have := HK1.out; omega⟩, ⟨ra_ HO_0.out⟩, ⟨by repeat (first | (with_reducible first | exact HK.out | apply Kept.alloc | apply Kept.drewN | apply Kept.drew) | exact HK.out)⟩, ⟨bl_⟩⟩
    ·rw [if_neg c4] at H
     exact absurd H (by simp)
   ·rw [if_neg c3] at H
    have c3b0 : decide (x5_1 < (x0_1.length : Int)) = false := decide_eq_false c3
    clear c3
    simp only [Option.some.injEq, Prod.mk.injEq] at H
    obtain ⟨rfl, rfl⟩ := H
    obtain ⟨Ao12, co12, eo12⟩ := Kd.R_slice HO_0.out
    subst eo12
    go_wp2
    go_ret
    exact ⟨by first | rfl | (simp [errW_none, errW_some] <;> rfl) | (simp [*, errW_none, errW_some] <;> rfl) | exact False.elim (Bool.noConfusion ((decide_eq_true (of_eq_true (by assumption))).symm.trans (by assumption))), ra_ HO_0.out, bl_, by repeat (first | (with_reducible first | exact HK.out | apply Kept.alloc | apply Kept.drewN | apply Kept.drew) | exact HK.out)⟩


/-! ### laws_heldTallyS: function 53 -/
def laws_heldTallyS.l0 : Nat → List (S65) → Int → Int → Option (Int)
 | 0, _, _, _ => none
 | k + 1, x0, x1, x5 => if x5 < (x0.length : Int) then (if 0 ≤ x5 then (if ((rd_T65 x0 x5).f0) = x1 then (if ((rd_T65 x0 x5).f1) = (wrap64 (x1 + 1)) then (laws_heldTallyS.l0 k x0 (wrap64 ((wrap64 (x1 + 1)) + 1)) (wrap64 (x5 + 1))) else (some (-1))) else (some (-1))) else (none)) else (some x1)
def laws_heldTallyS.f (k : Nat) (l0 : List (S65)) (a1 : Int) : Option (Int) := laws_heldTallyS.l0 k l0 a1 0
theorem laws_heldTallyS.mono_l : ∀ k, (∀ y0 y1 y2, LeO (laws_heldTallyS.l0 k y0 y1 y2) (laws_heldTallyS.l0 (k + 1) y0 y1 y2))
 | 0 => fun _ _ _ r h => by simp [laws_heldTallyS.l0] at h
 | k + 1 => by
  have ih0 := laws_heldTallyS.mono_l k
  ·intro y0 y1 y2
   unfold laws_heldTallyS.l0
   repeat' first
   | (with_reducible exact ih0 _ _ _)
   | (with_reducible exact LeO.refl _)
   | (with_reducible exact LeO.none _)
   | (with_reducible refine LeO.ite ?_ ?_)
   | (with_reducible refine LeO.bind ?_ (fun _ => ?_))
   | exact ih0 _ _ _
   | exact LeO.none _
   | refine LeO.ite ?_ ?_
   | refine LeO.bind ?_ (fun _ => ?_)
theorem laws_heldTallyS.mono : ∀ a0 a1 k, LeO (laws_heldTallyS.f k a0 a1) (laws_heldTallyS.f (k + 1) a0 a1) := by
 intro a0 a1 k
 have ih0 := laws_heldTallyS.mono_l k
 unfold laws_heldTallyS.f
 repeat' first
  | (with_reducible exact ih0 _ _ _)
  | (with_reducible exact LeO.refl _)
  | (with_reducible exact LeO.none _)
  | (with_reducible refine LeO.ite ?_ ?_)
  | (with_reducible refine LeO.bind ?_ (fun _ => ?_))
  | exact ih0 _ _ _
  | exact LeO.none _
  | refine LeO.ite ?_ ?_
  | refine LeO.bind ?_ (fun _ => ?_)
set_option maxHeartbeats 8000000 in
set_option maxRecDepth 100000 in
theorem laws_heldTallyS.calls (k : Nat) (A0 : Option Addr) (c0 : Nat) (l0 : List (S65)) (a1 : Int) (r : Int) (w : World) (hr0 : Kd.C k65 w A0 l0.length l0) (hc0 : l0.length ≤ c0) (h : laws_heldTallyS.f k l0 a1 = some r) :
 Calls Try.prog 53 #[.slice A0 l0.length c0, .int .i64 a1] w fun e w' => e = .returned (.int .i64 r) ∧ Drawn0 w w' := by
 have HR0 := Aside0.mk hr0
 have HC0 := Aside0.mk hc0
 clear hr0 hc0
 have H : (laws_heldTallyS.l0 k l0 a1 0) = some r := h
 clear h
 have H' := Aside0.mk H
 clear H
 go_enter Try.func53, Try.ntmps53
 go_wp2
 go_loopg [1, 5] k (fun kq v1 v5 w' => ∃ (x1_1 : Int) (x5_1 : Int), v1 = .int .i64 x1_1 ∧ v5 = .int .i64 x5_1 ∧ Aside0 (laws_heldTallyS.l0 kq l0 x1_1 x5_1 = some r) ∧ Aside0 (kq ≤ k) ∧ Drawn0 w w')
 case atStart => exact ⟨(a1), (0), (by first | rfl | (simp; done) | (simp [*]; done)), (by first | rfl | (simp; done) | (simp [*]; done)), H', ⟨Nat.le_refl _⟩, by repeat (first | exact Drawn0.refl _ | apply Drawn0.step)⟩
 case round =>
  clear H'
  try clear p2
  obtain ⟨x1_1, x5_1, rfl, rfl, HA, HK1, ⟨m1, rfl⟩⟩ := hrel
  cases gk with
  | zero => exact absurd HA.out (by simp [laws_heldTallyS.l0])
  | succ k1 =>
   have H := HA.out
   clear HA
   simp only [laws_heldTallyS.l0] at H
   by_cases c3 : x5_1 < (l0.length : Int)
   ·rw [if_pos c3] at H
    have c3b0 : decide (x5_1 < (l0.length : Int)) = true := decide_eq_true c3
    clear c3
    by_cases c4 : 0 ≤ x5_1
    ·rw [if_pos c4] at H
     have c4b0 : decide (0 ≤ x5_1) = true := decide_eq_true c4
     clear c4
     by_cases c5 : ((rd_T65 l0 x5_1).f0) = x1_1
     ·rw [if_pos c5] at H
      have c5b0 : (((rd_T65 l0 x5_1).f0) == x1_1) = true := beq_iff_eq.mpr c5
      have c5b1 : (((rd_T65 l0 x5_1).f0) != x1_1) = false := bne_eq_false_iff_eq.mpr c5
      clear c5
      by_cases c6 : ((rd_T65 l0 x5_1).f1) = (wrap64 (x1_1 + 1))
      ·rw [if_pos c6] at H
       have c6b0 : (((rd_T65 l0 x5_1).f1) == (wrap64 (x1_1 + 1))) = true := beq_iff_eq.mpr c6
       have c6b1 : (((rd_T65 l0 x5_1).f1) != (wrap64 (x1_1 + 1))) = false := bne_eq_false_iff_eq.mpr c6
       clear c6
       have H' := Aside0.mk H
       clear H
       have p1085 : 0 ≤ (x5_1 : Int) := of_decide_eq_true as_
       have q1085 : x5_1 < (l0.length : Int) := of_decide_eq_true as_
       obtain ⟨ad1085, e1085, hx1085_0, hx1085_1⟩ := at_T65 HR0.out x5_1 p1085 q1085
       cases e1085
       replace p1085 := eq_true p1085
       replace q1085 := eq_true q1085
       have p1086 : 0 ≤ (x5_1 : Int) := of_decide_eq_true as_
       have q1086 : x5_1 < (l0.length : Int) := of_decide_eq_true as_
       obtain ⟨ad1086, e1086, hx1086_0, hx1086_1⟩ := at_T65 HR0.out x5_1 p1086 q1086
       obtain rfl : ad1085 = ad1086 := (by injection e1086)
       replace p1086 := eq_true p1086
       replace q1086 := eq_true q1086
       go_wp2
       go_roundg k1
       case measure => have := HK1.out; omega
       case rel => exact ⟨(wrap64 ((wrap64 (x1_1 + 1)) + 1)), (wrap64 (x5_1 + 1)), (by first | rfl | (simp; done) | (simp [*]; done)), (by first | rfl | (simp; done) | (simp [*]; done)), H', ⟨by have := HK1.out; omega⟩, by repeat (first | exact Drawn0.refl _ | apply Drawn0.step)⟩
      ·rw [if_neg c6] at H
       have c6b0 : (((rd_T65 l0 x5_1).f1) == (wrap64 (x1_1 + 1))) = false := beq_eq_false_iff_ne.mpr c6
       have c6b1 : (((rd_T65 l0 x5_1).f1) != (wrap64 (x1_1 + 1))) = true := bne_iff_ne.mpr c6
       obtain rfl := Option.some.inj H
       have p1085 : 0 ≤ (x5_1 : Int) := of_decide_eq_true as_
       have q1085 : x5_1 < (l0.length : Int) := of_decide_eq_true as_
       obtain ⟨ad1085, e1085, hx1085_0, hx1085_1⟩ := at_T65 HR0.out x5_1 p1085 q1085
       cases e1085
       replace p1085 := eq_true p1085
       replace q1085 := eq_true q1085
       have p1086 : 0 ≤ (x5_1 : Int) := of_decide_eq_true as_
       have q1086 : x5_1 < (l0.length : Int) := of_decide_eq_true as_
       obtain ⟨ad1086, e1086, hx1086_0, hx1086_1⟩ := at_T65 HR0.out x5_1 p1086 q1086
       obtain rfl : ad1085 = ad1086 := (by injection e1086)
       replace p1086 := eq_true p1086
       replace q1086 := eq_true q1086
       go_wp2
       go_ret
       exact ⟨by first | rfl | (simp; done) | (simp [*]; done), by repeat (first | exact Drawn0.refl _ | apply Drawn0.step)⟩
     ·rw [if_neg c5] at H
      have c5b0 : (((rd_T65 l0 x5_1).f0) == x1_1) = false := beq_eq_false_iff_ne.mpr c5
      have c5b1 : (((rd_T65 l0 x5_1).f0) != x1_1) = true := bne_iff_ne.mpr c5
      obtain rfl := Option.some.inj H
      have p1085 : 0 ≤ (x5_1 : Int) := of_decide_eq_true as_
      have q1085 : x5_1 < (l0.length : Int) := of_decide_eq_true as_
      obtain ⟨ad1085, e1085, hx1085_0, hx1085_1⟩ := at_T65 HR0.out x5_1 p1085 q1085
      cases e1085
      replace p1085 := eq_true p1085
      replace q1085 := eq_true q1085
      go_wp2
      go_ret
      exact ⟨by first | rfl | (simp; done) | (simp [*]; done), by repeat (first | exact Drawn0.refl _ | apply Drawn0.step)⟩
    ·rw [if_neg c4] at H
     exact absurd H (by simp)
   ·rw [if_neg c3] at H
    have c3b0 : decide (x5_1 < (l0.length : Int)) = false := decide_eq_false c3
    clear c3
    obtain rfl := Option.some.inj H
    go_wp2
    go_ret
    exact ⟨by first | rfl | (simp; done) | (simp [*]; done), by repeat (first | exact Drawn0.refl _ | apply Drawn0.step)⟩


/-! ### laws_FnExactTalliesOf: function 9 -/
def laws_FnExactTalliesOf.j0 : Nat → List (S135) → List (S65) → List (S65) → Bool → Option (Bool)
 | 0, _, _, _, _ => none
 | k + 1, x0, x4, x6, x42 => if x42 = true then (some false) else ((laws_markTallyS.f k x6 1).bind fun bt1108 => ((laws_heldTallyS.f k bt1108.2 1).bind fun t1110 => (if t1110 < 0 then (some false) else (if t1110 = bt1108.1 then ((laws_toEntryS.f k x0).bind fun t1111 => ((impl_TalliesOf.f k t1111).bind fun t1114 => ((laws_eqTallyS.f k t1114 x4).bind fun t1117 => (if t1117 = true then ((laws_heldTallyS.f k bt1108.2 1).bind fun t1118 => (if t1118 < 0 then (some false) else (if t1118 = bt1108.1 then (some true) else (some false)))) else (some false))))) else (some false)))))
def laws_FnExactTalliesOf.f (k : Nat) (l0 : List (S135)) : Option (Bool) := (laws_szEntryS.f l0 1048576).bind fun t1087 => (if t1087 < 0 then (some true) else ((laws_toEntryS.f k l0).bind fun t1088 => ((spec_TalliesOf.f k t1088).bind fun t1091 => ((laws_toEntryS.f k l0).bind fun t1094 => ((impl_TalliesOf.f k t1094).bind fun t1097 => ((laws_eqTallyS.f k t1097 t1091).bind fun t1100 => (if t1100 = true then ((laws_toEntryS.f k l0).bind fun t1101 => ((laws_eqEntryS.f k t1094 t1101).bind fun t1104 => (if t1104 = true then ((laws_markEntryS.f k t1094 1).bind fun bt1105 => (if bt1105.1 < 0 then (laws_FnExactTalliesOf.j0 k l0 t1091 t1097 true) else ((laws_eqTallyS.f k t1097 t1091).bind fun t1107 => (laws_FnExactTalliesOf.j0 k l0 t1091 t1097 (!t1107))))) else (some false)))) else (some false))))))))
theorem laws_FnExactTalliesOf.mono_l : ∀ k, (∀ y0 y1 y2 y3, LeO (laws_FnExactTalliesOf.j0 k y0 y1 y2 y3) (laws_FnExactTalliesOf.j0 (k + 1) y0 y1 y2 y3))
 | 0 => fun _ _ _ _ r h => by simp [laws_FnExactTalliesOf.j0] at h
 | k + 1 => by
  have ih0 := laws_FnExactTalliesOf.mono_l k
  ·intro y0 y1 y2 y3
   unfold laws_FnExactTalliesOf.j0
   repeat' first
   | (with_reducible exact ih0 _ _ _ _)
   | (with_reducible exact impl_TalliesOf.mono _ _)
   | (with_reducible exact laws_eqEntryS.mono _ _ _)
   | (with_reducible exact laws_eqTallyS.mono _ _ _)
   | (with_reducible exact laws_heldTallyS.mono _ _ _)
   | (with_reducible exact laws_markEntryS.mono _ _ _)
   | (with_reducible exact laws_markTallyS.mono _ _ _)
   | (with_reducible exact laws_toEntryS.mono _ _)
   | (with_reducible exact spec_TalliesOf.mono _ _)
   | (with_reducible exact LeO.refl _)
   | (with_reducible exact LeO.none _)
   | (with_reducible refine LeO.ite ?_ ?_)
   | (with_reducible refine LeO.bind ?_ (fun _ => ?_))
   | exact ih0 _ _ _ _
   | exact impl_TalliesOf.mono _ _
   | exact laws_eqEntryS.mono _ _ _
   | exact laws_eqTallyS.mono _ _ _
   | exact laws_heldTallyS.mono _ _ _
   | exact laws_markEntryS.mono _ _ _
   | exact laws_markTallyS.mono _ _ _
   | exact laws_toEntryS.mono _ _
   | exact spec_TalliesOf.mono _ _
   | exact LeO.none _
   | refine LeO.ite ?_ ?_
   | refine LeO.bind ?_ (fun _ => ?_)
theorem laws_FnExactTalliesOf.mono : ∀ a0 k, LeO (laws_FnExactTalliesOf.f k a0) (laws_FnExactTalliesOf.f (k + 1) a0) := by
 intro a0 k
 have ih0 := laws_FnExactTalliesOf.mono_l k
 unfold laws_FnExactTalliesOf.f
 repeat' first
  | (with_reducible exact ih0 _ _ _ _)
  | (with_reducible exact impl_TalliesOf.mono _ _)
  | (with_reducible exact laws_eqEntryS.mono _ _ _)
  | (with_reducible exact laws_eqTallyS.mono _ _ _)
  | (with_reducible exact laws_heldTallyS.mono _ _ _)
  | (with_reducible exact laws_markEntryS.mono _ _ _)
  | (with_reducible exact laws_markTallyS.mono _ _ _)
  | (with_reducible exact laws_toEntryS.mono _ _)
  | (with_reducible exact spec_TalliesOf.mono _ _)
  | (with_reducible exact LeO.refl _)
  | (with_reducible exact LeO.none _)
  | (with_reducible refine LeO.ite ?_ ?_)
  | (with_reducible refine LeO.bind ?_ (fun _ => ?_))
  | exact ih0 _ _ _ _
  | exact impl_TalliesOf.mono _ _
  | exact laws_eqEntryS.mono _ _ _
  | exact laws_eqTallyS.mono _ _ _
  | exact laws_heldTallyS.mono _ _ _
  | exact laws_markEntryS.mono _ _ _
  | exact laws_markTallyS.mono _ _ _
  | exact laws_toEntryS.mono _ _
  | exact spec_TalliesOf.mono _ _
  | exact LeO.none _
  | refine LeO.ite ?_ ?_
  | refine LeO.bind ?_ (fun _ => ?_)
set_option maxHeartbeats 8000000 in
set_option maxRecDepth 100000 in
theorem laws_FnExactTalliesOf.calls (k : Nat) (A0 : Option Addr) (c0 : Nat) (l0 : List (S135)) (r : Bool) (w : World) (hr0 : Kd.C k135 w A0 l0.length l0) (hc0 : l0.length ≤ c0) (hr1 : r = true) (h : laws_FnExactTalliesOf.f k l0 = some r) :
 Calls Try.prog 9 #[.slice A0 l0.length c0] w fun e w' => e = .returned (.bool r) ∧ Below w.heap.size w w' := by
 have HR0 := Aside0.mk hr0
 have HC0 := Aside0.mk hc0
 clear hr0 hc0
 have HR1 := Aside0.mk hr1
 clear hr1
 have HB := Aside0.mk (Below.refl w.heap.size w)
 have H : ((laws_szEntryS.f l0 1048576).bind fun t1087 => (if t1087 < 0 then (some true) else ((laws_toEntryS.f k l0).bind fun t1088 => ((spec_TalliesOf.f k t1088).bind fun t1091 => ((laws_toEntryS.f k l0).bind fun t1094 => ((impl_TalliesOf.f k t1094).bind fun t1097 => ((laws_eqTallyS.f k t1097 t1091).bind fun t1100 => (if t1100 = true then ((laws_toEntryS.f k l0).bind fun t1101 => ((laws_eqEntryS.f k t1094 t1101).bind fun t1104 => (if t1104 = true then ((laws_markEntryS.f k t1094 1).bind fun bt1105 => (if bt1105.1 < 0 then (laws_FnExactTalliesOf.j0 k l0 t1091 t1097 true) else ((laws_eqTallyS.f k t1097 t1091).bind fun t1107 => (laws_FnExactTalliesOf.j0 k l0 t1091 t1097 (!t1107))))) else (some false)))) else (some false))))))))) = some r := h
 clear h
 replace H := Option.bind_eq_some_iff.mp H
 obtain ⟨t1087, A20, H⟩ := H
 try dsimp only at H
 have A2 := Aside0.mk A20
 clear A20
 by_cases c3 : t1087 < 0
 ·rw [if_pos c3] at H
  have c3b0 : decide (t1087 < 0) = true := decide_eq_true c3
  clear c3
  obtain rfl := Option.some.inj H
  go_enter Try.func9, Try.ntmps9
  go_wp2_with (first | ((with_reducible refine gate_callee (f := 38) rfl ?_); refine goesL_ (some 13) rfl rfl Try.func38 (by kernel_rfl) rfl #[.slice A0 l0.length c0, .int .i64 1048576] rfl lm_ ?_; (with_reducible refine (laws_szEntryS.calls _ _ l0 1048576 t1087 _ ?side1 ?side2 A2.out).mono ?_); (case side1 => repeat (first | exact HR0.out | (with_reducible refine Kd.C_alloc ?_ _) | (with_reducible refine Kd.C_drewN ?_ _) | (with_reducible refine Kd.C_drew ?_))); (case side2 => exact HC0.out); rintro e w' ⟨rfl, ⟨nd, rfl⟩⟩; refine ⟨_, rfl, ?_⟩))
  go_ret
  exact ⟨by first | rfl | (simp [errW_none, errW_some] <;> rfl) | (simp [*, errW_none, errW_some] <;> rfl) | exact False.elim (Bool.noConfusion ((decide_eq_true (of_eq_true (by assumption))).symm.trans (by assumption))), bl_⟩
 ·rw [if_neg c3] at H
  have c3b0 : decide (t1087 < 0) = false := decide_eq_false c3
  clear c3
  replace H := Option.bind_eq_some_iff.mp H
  obtain ⟨t1088, A40, H⟩ := H
  try dsimp only at H
  have A4 := Aside0.mk A40
  clear A40
  replace H := Option.bind_eq_some_iff.mp H
  obtain ⟨t1091, A50, H⟩ := H
  try dsimp only at H
  have A5 := Aside0.mk A50
  clear A50
  replace H := Option.bind_eq_some_iff.mp H
  obtain ⟨t1094, A60, H⟩ := H
  try dsimp only at H
  have A6 := Aside0.mk A60
  clear A60
  replace H := Option.bind_eq_some_iff.mp H
  obtain ⟨t1097, A70, H⟩ := H
  try dsimp only at H
  have A7 := Aside0.mk A70
  clear A70
  replace H := Option.bind_eq_some_iff.mp H
  obtain ⟨t1100, A80, H⟩ := H
  try dsimp only at H
  have A8 := Aside0.mk A80
  clear A80
  by_cases c9 : t1100 = true
  ·subst c9
   rw [if_pos rfl] at H
   replace H := Option.bind_eq_some_iff.mp H
   obtain ⟨t1101, A100, H⟩ := H
   try dsimp only at H
   have A10 := Aside0.mk A100
   clear A100
   replace H := Option.bind_eq_some_iff.mp H
   obtain ⟨t1104, A110, H⟩ := H
   try dsimp only at H
   have A11 := Aside0.mk A110
   clear A110
   by_cases c12 : t1104 = true
   ·subst c12
    rw [if_pos rfl] at H
    replace H := Option.bind_eq_some_iff.mp H
    obtain ⟨⟨t1105, t1106⟩, A130, H⟩ := H
    try dsimp only at H
    have A13 := Aside0.mk A130
    clear A130
    have HC14 := Aside0.mk H
    clear H
    go_enter Try.func9, Try.ntmps9
    go_upto_region 14 with (first | ((with_reducible refine gate_callee (f := 38) rfl ?_); refine goesL_ (some 13) rfl rfl Try.func38 (by kernel_rfl) rfl #[.slice A0 l0.length c0, .int .i64 1048576] rfl lm_ ?_; (with_reducible refine (laws_szEntryS.calls _ _ l0 1048576 t1087 _ ?side1 ?side2 A2.out).mono ?_); (case side1 => repeat (first | exact HR0.out | (with_reducible refine Kd.C_alloc ?_ _) | (with_reducible refine Kd.C_drewN ?_ _) | (with_reducible refine Kd.C_drew ?_))); (case side2 => exact HC0.out); rintro e w' ⟨rfl, ⟨nd, rfl⟩⟩; refine ⟨_, rfl, ?_⟩) | ((with_reducible refine gate_callee (f := 40) rfl ?_); refine goesL_ (some 17) rfl rfl Try.func40 (by kernel_rfl) rfl #[.slice A0 l0.length c0] rfl lm_ ?_; (with_reducible refine (laws_toEntryS.calls k _ _ l0 t1088 _ ?side1 ?side2 A4.out).mono ?_); (case side1 => repeat (first | exact HR0.out | (with_reducible refine Kd.C_alloc ?_ _) | (with_reducible refine Kd.C_drewN ?_ _) | (with_reducible refine Kd.C_drew ?_))); (case side2 => exact HC0.out); rintro e w15 ⟨v1089, rfl, ho0, hb⟩; refine ⟨_, rfl, ?_⟩; have n0_ := Aside0.mk (Kd.R_lower ho0 (below_size bl_)); have n1_ := Aside0.mk (below_step bl_ hb); clear HB; have HO1090 := n0_; have HB := n1_; clear n0_ n1_; (try clear hb); (try clear hb2); (try clear hk); (try clear hi); (try clear ho0); obtain ⟨Ao16, co16, eo16⟩ := Kd.R_slice HO1090.out; subst eo16) | ((with_reducible refine gate_callee (f := 49) rfl ?_); refine goesL_ (some 18) rfl rfl Try.func49 (by kernel_rfl) rfl #[.slice Ao16 t1088.length co16] rfl lm_ ?_; (with_reducible refine (spec_TalliesOf.calls k _ _ t1088 t1091 _ ?side1 ?side2 A5.out).mono ?_); (case side1 => repeat (first | exact (Kd.R_reads' HO1090.out).2.2 | (with_reducible refine Kd.C_alloc ?_ _) | (with_reducible refine Kd.C_drewN ?_ _) | (with_reducible refine Kd.C_drew ?_))); (case side2 => exact (Kd.R_reads' HO1090.out).2.1); rintro e w17 ⟨v1092, rfl, ho0, hb⟩; refine ⟨_, rfl, ?_⟩; have n0_ := Aside0.mk (Kd.R_below (ra_ HO1090.out) hb); have n1_ := Aside0.mk (Kd.R_lower ho0 (below_size bl_)); have n2_ := Aside0.mk (below_step bl_ hb); clear HO1090; clear HB; have HO1090 := n0_; have HO1093 := n1_; have HB := n2_; clear n0_ n1_ n2_; (try clear hb); (try clear hb2); (try clear hk); (try clear hi); (try clear ho0)) | ((with_reducible refine gate_callee (f := 40) rfl ?_); refine goesL_ (some 20) rfl rfl Try.func40 (by kernel_rfl) rfl #[.slice A0 l0.length c0] rfl lm_ ?_; (with_reducible refine (laws_toEntryS.calls k _ _ l0 t1094 _ ?side1 ?side2 A6.out).mono ?_); (case side1 => repeat (first | exact (Kd.C_below HR0.out HB.out) | exact HR0.out | (with_reducible refine Kd.C_alloc ?_ _) | (with_reducible refine Kd.C_drewN ?_ _) | (with_reducible refine Kd.C_drew ?_))); (case side2 => exact HC0.out); rintro e w18 ⟨v1095, rfl, ho0, hb⟩; refine ⟨_, rfl, ?_⟩; have n0_ := Aside0.mk (Kd.R_elder' (ra_ HO1090.out) (Kd.R_base ho0) hb); have n1_ := Aside0.mk (Kd.R_below (ra_ HO1093.out) hb); have n2_ := Aside0.mk (Kd.R_lower (Kd.R_new' ho0 (Kd.R_lt (ra_ HO1090.out))) (below_size bl_)); have n3_ := Aside0.mk (below_step bl_ hb); clear HO1090; clear HO1093; clear HB; have HO1090 := n0_; have HO1093 := n1_; have HO1096 := n2_; have HB := n3_; clear n0_ n1_ n2_ n3_; (try clear hb); (try clear hb2); (try clear hk); (try clear hi); (try clear ho0); obtain ⟨Ao19, co19, eo19⟩ := Kd.R_slice HO1096.out; subst eo19) | ((with_reducible refine gate_callee (f := 50) rfl ?_); refine goesL_ (some 22) rfl rfl Try.func50 (by kernel_rfl) rfl #[.slice Ao19 t1094.length co19] rfl lm_ ?_; (with_reducible refine (impl_TalliesOf.calls k _ _ t1094 t1097 _ ?side1 ?side2 A7.out).mono ?_); (case side1 => repeat (first | exact (Kd.R_reads' HO1096.out).2.2 | (with_reducible refine Kd.C_alloc ?_ _) | (with_reducible refine Kd.C_drewN ?_ _) | (with_reducible refine Kd.C_drew ?_))); (case side2 => exact (Kd.R_reads' HO1096.out).2.1); rintro e w20 ⟨v1098, rfl, ho0, hb⟩; refine ⟨_, rfl, ?_⟩; have n0_ := Aside0.mk (Kd.R_below (ra_ HO1090.out) hb); have n1_ := Aside0.mk (Kd.R_elder' (ra_ HO1093.out) (Kd.R_base ho0) hb); have n2_ := Aside0.mk (Kd.R_below (ra_ HO1096.out) hb); have n3_ := Aside0.mk (Kd.R_lower (Kd.R_new' ho0 (Kd.R_lt (ra_ HO1093.out))) (below_size bl_)); have n4_ := Aside0.mk (below_step bl_ hb); clear HO1090; clear HO1093; clear HO1096; clear HB; have HO1090 := n0_; have HO1093 := n1_; have HO1096 := n2_; have HO1099 := n3_; have HB := n4_; clear n0_ n1_ n2_ n3_ n4_; (try clear hb); (try clear hb2); (try clear hk); (try clear hi); (try clear ho0); obtain ⟨Ao21, co21, eo21⟩ := Kd.R_slice HO1099.out; subst eo21; obtain ⟨Ao22, co22, eo22⟩ := Kd.R_slice HO1093.out; subst eo22) | ((with_reducible refine gate_callee (f := 51) rfl ?_); refine goesL_ (some 25) rfl rfl Try.func51 (by kernel_rfl) rfl #[.slice Ao21 t1097.length co21, .slice Ao22 t1091.length co22] rfl lm_ ?_; (with_reducible refine (laws_eqTallyS.calls k _ _ t1097 _ _ t1091 true _ ?side1 ?side2 ?side3 ?side4 A8.out).mono ?_); (case side1 => repeat (first | exact (Kd.R_reads' HO1099.out).2.2 | (with_reducible refine Kd.C_alloc ?_ _) | (with_reducible refine Kd.C_drewN ?_ _) | (with_reducible refine Kd.C_drew ?_))); (case side2 => exact (Kd.R_reads' HO1099.out).2.1); (case side3 => repeat (first | exact (Kd.R_reads' HO1093.out).2.2 | (with_reducible refine Kd.C_alloc ?_ _) | (with_reducible refine Kd.C_drewN ?_ _) | (with_reducible refine Kd.C_drew ?_))); (case side4 => exact (Kd.R_reads' HO1093.out).2.1); rintro e w23 ⟨rfl, hb⟩; refine ⟨_, rfl, ?_⟩; have n0_ := Aside0.mk (Kd.R_below (ra_ HO1090.out) hb); have n1_ := Aside0.mk (Kd.R_below (ra_ HO1093.out) hb); have n2_ := Aside0.mk (Kd.R_below (ra_ HO1096.out) hb); have n3_ := Aside0.mk (Kd.R_below (ra_ HO1099.out) hb); have n4_ := Aside0.mk (below_step bl_ hb); clear HO1090; clear HO1093; clear HO1096; clear HO1099; clear HB; have HO1090 := n0_; have HO1093 := n1_; have HO1096 := n2_; have HO1099 := n3_; have HB := n4_; clear n0_ n1_ n2_ n3_ n4_; (try clear hb); (try clear hb2); (try clear hk); (try clear hi)) | ((with_reducible refine gate_callee (f := 40) rfl ?_); refine goesL_ (some 29) rfl rfl Try.func40 (by kernel_rfl) rfl #[.slice A0 l0.length c0] rfl lm_ ?_; (with_reducible refine (laws_toEntryS.calls k _ _ l0 t1101 _ ?side1 ?side2 A10.out).mono ?_); (case side1 => repeat (first | exact (Kd.C_below HR0.out HB.out) | exact HR0.out | (with_reducible refine Kd.C_alloc ?_ _) | (with_reducible refine Kd.C_drewN ?_ _) | (with_reducible refine Kd.C_drew ?_))); (case side2 => exact HC0.out); rintro e w24 ⟨v1102, rfl, ho0, hb⟩; refine ⟨_, rfl, ?_⟩; have n0_ := Aside0.mk (Kd.R_elder' (ra_ HO1090.out) (Kd.R_base ho0) hb); have n1_ := Aside0.mk (Kd.R_below (ra_ HO1093.out) hb); have n2_ := Aside0.mk (Kd.R_elder' (ra_ HO1096.out) (Kd.R_base ho0) hb); have n3_ := Aside0.mk (Kd.R_below (ra_ HO1099.out) hb); have n4_ := Aside0.mk (Kd.R_lower (Kd.R_new' (Kd.R_new' ho0 (Kd.R_lt (ra_ HO1090.out))) (Kd.R_lt (ra_ HO1096.out))) (below_size bl_)); have n5_ := Aside0.mk (below_step bl_ hb); clear HO1090; clear HO1093; clear HO1096; clear HO1099; clear HB; have HO1090 := n0_; have HO1093 := n1_; have HO1096 := n2_; have HO1099 := n3_; have HO1103 := n4_; have HB := n5_; clear n0_ n1_ n2_ n3_ n4_ n5_; (try clear hb); (try clear hb2); (try clear hk); (try clear hi); (try clear ho0); obtain ⟨Ao25, co25, eo25⟩ := Kd.R_slice HO1103.out; subst eo25) | ((with_reducible refine gate_callee (f := 42) rfl ?_); refine goesL_ (some 30) rfl rfl Try.func42 (by kernel_rfl) rfl #[.slice Ao19 t1094.length co19, .slice Ao25 t1101.length co25] rfl lm_ ?_; (with_reducible refine (laws_eqEntryS.calls k _ _ t1094 _ _ t1101 true _ ?side1 ?side2 ?side3 ?side4 A11.out).mono ?_); (case side1 => repeat (first | exact (Kd.R_reads' HO1096.out).2.2 | (with_reducible refine Kd.C_alloc ?_ _) | (with_reducible refine Kd.C_drewN ?_ _) | (with_reducible refine Kd.C_drew ?_))); (case side2 => exact (Kd.R_reads' HO1096.out).2.1); (case side3 => repeat (first | exact (Kd.R_reads' HO1103.out).2.2 | (with_reducible refine Kd.C_alloc ?_ _) | (with_reducible refine Kd.C_drewN ?_ _) | (with_reducible refine Kd.C_drew ?_))); (case side4 => exact (Kd.R_reads' HO1103.out).2.1); rintro e w26 ⟨rfl, hb⟩; refine ⟨_, rfl, ?_⟩; have n0_ := Aside0.mk (Kd.R_below (ra_ HO1090.out) hb); have n1_ := Aside0.mk (Kd.R_below (ra_ HO1093.out) hb); have n2_ := Aside0.mk (Kd.R_below (ra_ HO1096.out) hb); have n3_ := Aside0.mk (Kd.R_below (ra_ HO1099.out) hb); have n4_ := Aside0.mk (Kd.R_below (ra_ HO1103.out) hb); have n5_ := Aside0.mk (below_step bl_ hb); clear HO1090; clear HO1093; clear HO1096; clear HO1099; clear HO1103; clear HB; have HO1090 := n0_; have HO1093 := n1_; have HO1096 := n2_; have HO1099 := n3_; have HO1103 := n4_; have HB := n5_; clear n0_ n1_ n2_ n3_ n4_ n5_; (try clear hb); (try clear hb2); (try clear hk); (try clear hi)) | ((with_reducible refine gate_callee (f := 46) rfl ?_); refine goesL_ (some 34) rfl rfl Try.func46 (by kernel_rfl) rfl #[.slice Ao19 t1094.length co19, .int .i64 1] rfl lm_ ?_; (with_reducible refine (laws_markEntryS.calls k (fun k_ => some k_ = (.slice Ao19 t1094.length co19 : Value).ownBlock) (.slice Ao19 t1094.length co19) t1094 1 t1105 t1106 w _ ?side1 ?side2 A13.out).mono ?_); (case side1 => repeat (first | (with_reducible first | exact HB.out | apply below_alloc | apply pw_below_drewN | apply below_drew1) | exact HB.out)); (case side2 => exact Kd.R_tight rfl HO1096.out); rintro e w27 ⟨rfl, hy0, hb, hkp⟩; refine ⟨_, rfl, ?_⟩; have n0_ := Aside0.mk (Kd.R_mono (ok' := fun k_ => some k_ ≠ (.slice Ao19 t1094.length co19 : Value).ownBlock ∧ some k_ ≠ (.slice Ao25 t1101.length co25 : Value).ownBlock) (Kd.R_keptB (HO1090.out) hkp (fun k_ hk_ hs_ => (hk_.1.2) hs_)) (fun k_ hk_ => ⟨hk_.1.1.2, hk_.1.2⟩)); have n1_ := Aside0.mk (Kd.R_mono (ok' := fun k_ => some k_ ≠ (.slice Ao21 t1097.length co21 : Value).ownBlock) (Kd.R_keptB ((Kd.R_apart' HO1093.out (Kd.R_typed HO1096.out) (by decide))) hkp (fun k_ hk_ hs_ => (hk_.2) hs_)) (fun k_ hk_ => hk_.1.1.2)); have n2_ := Aside0.mk (Kd.R_reok rfl hy0 (fun k_ e_ => HO1096.out.1 k_ e_)); have n3_ := Aside0.mk (Kd.R_mono (ok' := fun k_ => some k_ ≠ (.slice Ao22 t1091.length co22 : Value).ownBlock) (Kd.R_keptB ((Kd.R_apart' HO1099.out (Kd.R_typed HO1096.out) (by decide))) hkp (fun k_ hk_ hs_ => (hk_.2) hs_)) (fun k_ hk_ => hk_.1.1.2)); have n4_ := Aside0.mk (Kd.R_mono (ok' := fun k_ => some k_ ≠ (.slice Ao16 t1088.length co16 : Value).ownBlock ∧ some k_ ≠ (.slice Ao19 t1094.length co19 : Value).ownBlock) (Kd.R_keptB (HO1103.out) hkp (fun k_ hk_ hs_ => (hk_.2) hs_)) (fun k_ hk_ => ⟨hk_.1.1.2, hk_.1.2⟩)); have n5_ := Aside0.mk (hb); clear HO1090; clear HO1093; clear HO1096; clear HO1099; clear HO1103; clear HB; have HO1090 := n0_; have HO1093 := n1_; have HO1096 := n2_; have HO1099 := n3_; have HO1103 := n4_; have HB := n5_; clear n0_ n1_ n2_ n3_ n4_ n5_; (try clear hb); (try clear hkp); (try clear hy0)))
    (try simp only [Act.put, List.setIfInBounds_toArray, List.set_cons_zero, List.set_cons_succ])
    go_cut [42] (fun v42 wc => ∃ (kq : Nat) (x42_13 : Bool), v42 = .bool x42_13 ∧ Aside0 (laws_FnExactTalliesOf.j0 kq l0 t1091 t1097 x42_13 = some r) ∧ Aside0 (kq ≤ k) ∧ Aside0 (Kd.R k65 65 wc w.heap.size (fun k_ => some k_ ≠ ((.slice Ao21 t1097.length co21) : Value).ownBlock) (.slice Ao22 t1091.length co22) t1091) ∧ Aside0 (Kd.R k65 65 wc w.heap.size (fun k_ => some k_ ≠ ((.slice Ao22 t1091.length co22) : Value).ownBlock) (.slice Ao21 t1097.length co21) t1097) ∧ Aside0 (Below w.heap.size w wc))
    case first =>
     have H := HC14.out
     clear HC14
     by_cases c28 : t1105 < 0
     ·rw [if_pos c28] at H
      have c28b0 : decide (t1105 < 0) = true := decide_eq_true c28
      clear c28
      (first | rw [c28b0] | (simp only [i64_w, i32_w]; rw [c28b0]) | skip)
      have H' := Aside0.mk H
      clear H
      go_wp2
      go_meet
      case rel => exact ⟨_, (true), (by first | rfl | (simp; done) | (simp [*]; done)), H', ⟨by first | omega | exact Nat.le_refl _⟩, ⟨ra_ HO1093.out⟩, ⟨ra_ HO1099.out⟩, ⟨bl_⟩⟩
     ·rw [if_neg c28] at H
      have c28b0 : decide (t1105 < 0) = false := decide_eq_false c28
      clear c28
      (first | rw [c28b0] | (simp only [i64_w, i32_w]; rw [c28b0]) | skip)
      replace H := Option.bind_eq_some_iff.mp H
      obtain ⟨t1107, A290, H⟩ := H
      try dsimp only at H
      have A29 := Aside0.mk A290
      clear A290
      have H' := Aside0.mk H
      clear H
      go_wp2_with (first | (go_at_call 51; (with_reducible refine (laws_eqTallyS.calls k _ _ t1097 _ _ t1091 t1107 _ ?side1 ?side2 ?side3 ?side4 A29.out).mono ?_); (case side1 => repeat (first | exact (Kd.R_reads' HO1099.out).2.2 | (with_reducible refine Kd.C_alloc ?_ _) | (with_reducible refine Kd.C_drewN ?_ _) | (with_reducible refine Kd.C_drew ?_))); (case side2 => exact (Kd.R_reads' HO1099.out).2.1); (case side3 => repeat (first | exact (Kd.R_reads' HO1093.out).2.2 | (with_reducible refine Kd.C_alloc ?_ _) | (with_reducible refine Kd.C_drewN ?_ _) | (with_reducible refine Kd.C_drew ?_))); (case side4 => exact (Kd.R_reads' HO1093.out).2.1); rintro e w30 ⟨rfl, hb⟩; have n0_ := Aside0.mk (Kd.R_below (ra_ HO1090.out) hb); have n1_ := Aside0.mk (Kd.R_below (ra_ HO1093.out) hb); have n2_ := Aside0.mk (Kd.R_below (ra_ HO1096.out) hb); have n3_ := Aside0.mk (Kd.R_below (ra_ HO1099.out) hb); have n4_ := Aside0.mk (Kd.R_below (ra_ HO1103.out) hb); have n5_ := Aside0.mk (below_step bl_ hb); clear HO1090; clear HO1093; clear HO1096; clear HO1099; clear HO1103; clear HB; have HO1090 := n0_; have HO1093 := n1_; have HO1096 := n2_; have HO1099 := n3_; have HO1103 := n4_; have HB := n5_; clear n0_ n1_ n2_ n3_ n4_ n5_; (try clear hb); (try clear hb2); (try clear hk); (try clear hi)))
      go_meet
      case rel => exact ⟨_, (!t1107), (by first | rfl | (simp; done) | (simp [*]; done)), H', ⟨by first | omega | exact Nat.le_refl _⟩, ⟨ra_ HO1093.out⟩, ⟨ra_ HO1099.out⟩, ⟨bl_⟩⟩
    case rest =>
     clear HC14
     try clear c1
     try clear c2
     try clear p2
     try clear c3
     try clear c3b0
     try clear c4
     try clear c5
     try clear c9
     try clear c12
     try clear c28
     try clear c28b0
     obtain ⟨kq, x42_13, rfl, HA, HJ13, HO_4, HO_6, HB⟩ := hcut
     cases kq with
     | zero => exact absurd HA.out (by simp [laws_FnExactTalliesOf.j0])
     | succ kj13 =>
      have H := HA.out
      clear HA
      simp only [laws_FnExactTalliesOf.j0] at H
      by_cases c31 : x42_13 = true
      ·subst c31
       rw [if_pos rfl] at H
       exact absurd ((Option.some.inj H).trans HR1.out) (by decide)
      ·replace c31 := Bool.eq_false_iff.mpr c31
       subst c31
       rw [if_neg (show ¬ (false = true) by decide)] at H
       replace H := Option.bind_eq_some_iff.mp H
       obtain ⟨⟨t1108, t1109⟩, A320, H⟩ := H
       try dsimp only at H
       have A32 := Aside0.mk A320
       clear A320
       replace H := Option.bind_eq_some_iff.mp H
       obtain ⟨t1110, A330, H⟩ := H
       try dsimp only at H
       have A33 := Aside0.mk A330
       clear A330
       by_cases c34 : t1110 < 0
       ·rw [if_pos c34] at H
        have c34b0 : decide (t1110 < 0) = true := decide_eq_true c34
        clear c34
        exact absurd ((Option.some.inj H).trans HR1.out) (by decide)
       ·rw [if_neg c34] at H
        have c34b0 : decide (t1110 < 0) = false := decide_eq_false c34
        clear c34
        by_cases c35 : t1110 = t1108
        ·rw [if_pos c35] at H
         have c35b0 : (t1110 == t1108) = true := beq_iff_eq.mpr c35
         have c35b1 : (t1110 != t1108) = false := bne_eq_false_iff_eq.mpr c35
         clear c35
         replace H := Option.bind_eq_some_iff.mp H
         obtain ⟨t1111, A360, H⟩ := H
         try dsimp only at H
         have A36 := Aside0.mk A360
         clear A360
         replace H := Option.bind_eq_some_iff.mp H
         obtain ⟨t1114, A370, H⟩ := H
         try dsimp only at H
         have A37 := Aside0.mk A370
         clear A370
         replace H := Option.bind_eq_some_iff.mp H
         obtain ⟨t1117, A380, H⟩ := H
         try dsimp only at H
         have A38 := Aside0.mk A380
         clear A380
         by_cases c39 : t1117 = true
         ·subst c39
          rw [if_pos rfl] at H
          replace H := Option.bind_eq_some_iff.mp H
          obtain ⟨t1118, A400, H⟩ := H
          try dsimp only at H
          have A40 := Aside0.mk A400
          clear A400
          by_cases c41 : t1118 < 0
          ·rw [if_pos c41] at H
           have c41b0 : decide (t1118 < 0) = true := decide_eq_true c41
           clear c41
           exact absurd ((Option.some.inj H).trans HR1.out) (by decide)
          ·rw [if_neg c41] at H
           have c41b0 : decide (t1118 < 0) = false := decide_eq_false c41
           clear c41
           by_cases c42 : t1118 = t1108
           ·rw [if_pos c42] at H
            have c42b0 : (t1118 == t1108) = true := beq_iff_eq.mpr c42
            have c42b1 : (t1118 != t1108) = false := bne_eq_false_iff_eq.mpr c42
            clear c42
            obtain rfl := Option.some.inj H
            go_wp2_with (first | ((with_reducible refine gate_callee (f := 52) rfl ?_); refine goesL_ (some 45) rfl rfl Try.func52 (by kernel_rfl) rfl #[.slice Ao21 t1097.length co21, .int .i64 1] rfl lm_ ?_; (with_reducible refine (laws_markTallyS.calls kj13 (fun k_ => some k_ = (.slice Ao21 t1097.length co21 : Value).ownBlock) (.slice Ao21 t1097.length co21) t1097 1 t1108 t1109 w _ ?side1 ?side2 A32.out).mono ?_); (case side1 => repeat (first | (with_reducible first | exact HB.out | apply below_alloc | apply pw_below_drewN | apply below_drew1) | exact HB.out)); (case side2 => exact Kd.R_tight rfl HO_6.out); rintro e w43 ⟨rfl, hy0, hb, hkp⟩; refine ⟨_, rfl, ?_⟩; have n0_ := Aside0.mk (Kd.R_mono (ok' := fun k_ => some k_ ≠ (.slice Ao21 t1097.length co21 : Value).ownBlock) (Kd.R_keptB (HO_4.out) hkp (fun k_ hk_ hs_ => (hk_) hs_)) (fun k_ hk_ => hk_.1)); have n1_ := Aside0.mk (Kd.R_reok rfl hy0 (fun k_ e_ => HO_6.out.1 k_ e_)); have n2_ := Aside0.mk (hb); clear HO_4; clear HO_6; clear HB; have HO_4 := n0_; have HO_6 := n1_; have HB := n2_; clear n0_ n1_ n2_; (try clear hb); (try clear hkp); (try clear hy0)) | ((with_reducible refine gate_callee (f := 53) rfl ?_); refine goesL_ (some 48) rfl rfl Try.func53 (by kernel_rfl) rfl #[.slice Ao21 t1109.length co21, .int .i64 1] rfl (by (try simp only [List.map_toArray, List.map_cons, List.map_nil]); first | done | (rw [show t1109.length = t1097.length from (Kd.R_reads' HO_6.out).1.symm] <;> rfl) | rfl | (simp only [List.length_drop, List.length_take]; rfl)) ?_; (with_reducible refine (laws_heldTallyS.calls kj13 _ _ t1109 1 t1110 _ ?side1 ?side2 A33.out).mono ?_); (case side1 => repeat (first | exact (Kd.R_reads' HO_6.out).2.2 | (with_reducible refine Kd.C_alloc ?_ _) | (with_reducible refine Kd.C_drewN ?_ _) | (with_reducible refine Kd.C_drew ?_))); (case side2 => rw [show t1109.length = t1097.length from (Kd.R_reads' HO_6.out).1.symm]; exact (Kd.R_reads' HO_6.out).2.1); rintro e w' ⟨rfl, ⟨nd, rfl⟩⟩; refine ⟨_, rfl, ?_⟩) | ((with_reducible refine gate_callee (f := 40) rfl ?_); refine goesL_ (some 55) rfl rfl Try.func40 (by kernel_rfl) rfl #[.slice A0 l0.length c0] rfl lm_ ?_; (with_reducible refine (laws_toEntryS.calls kj13 _ _ l0 t1111 _ ?side1 ?side2 A36.out).mono ?_); (case side1 => repeat (first | exact (Kd.C_below HR0.out bl_) | exact HR0.out | (with_reducible refine Kd.C_alloc ?_ _) | (with_reducible refine Kd.C_drewN ?_ _) | (with_reducible refine Kd.C_drew ?_))); (case side2 => exact HC0.out); rintro e w44 ⟨v1112, rfl, ho0, hb⟩; refine ⟨_, rfl, ?_⟩; have n0_ := Aside0.mk (Kd.R_below (ra_ HO_4.out) hb); have n1_ := Aside0.mk (Kd.R_below (ra_ HO_6.out) hb); have n2_ := Aside0.mk (Kd.R_lower ho0 (below_size bl_)); have n3_ := Aside0.mk (below_step bl_ hb); clear HO_4; clear HO_6; clear HB; have HO_4 := n0_; have HO_6 := n1_; have HO1113 := n2_; have HB := n3_; clear n0_ n1_ n2_ n3_; (try clear hb); (try clear hb2); (try clear hk); (try clear hi); (try clear ho0); obtain ⟨Ao45, co45, eo45⟩ := Kd.R_slice HO1113.out; subst eo45) | ((with_reducible refine gate_callee (f := 50) rfl ?_); refine goesL_ (some 56) rfl rfl Try.func50 (by kernel_rfl) rfl #[.slice Ao45 t1111.length co45] rfl lm_ ?_; (with_reducible refine (impl_TalliesOf.calls kj13 _ _ t1111 t1114 _ ?side1 ?side2 A37.out).mono ?_); (case side1 => repeat (first | exact (Kd.R_reads' HO1113.out).2.2 | (with_reducible refine Kd.C_alloc ?_ _) | (with_reducible refine Kd.C_drewN ?_ _) | (with_reducible refine Kd.C_drew ?_))); (case side2 => exact (Kd.R_reads' HO1113.out).2.1); rintro e w46 ⟨v1115, rfl, ho0, hb⟩; refine ⟨_, rfl, ?_⟩; have n0_ := Aside0.mk (Kd.R_elder' (ra_ HO_4.out) (Kd.R_base ho0) hb); have n1_ := Aside0.mk (Kd.R_elder' (ra_ HO_6.out) (Kd.R_base ho0) hb); have n2_ := Aside0.mk (Kd.R_below (ra_ HO1113.out) hb); have n3_ := Aside0.mk (Kd.R_lower (Kd.R_new' (Kd.R_new' ho0 (Kd.R_lt (ra_ HO_4.out))) (Kd.R_lt (ra_ HO_6.out))) (below_size bl_)); have n4_ := Aside0.mk (below_step bl_ hb); clear HO_4; clear HO_6; clear HO1113; clear HB; have HO_4 := n0_; have HO_6 := n1_; have HO1113 := n2_; have HO1116 := n3_; have HB := n4_; clear n0_ n1_ n2_ n3_ n4_; (try clear hb); (try clear hb2); (try clear hk); (try clear hi); (try clear ho0); obtain ⟨Ao47, co47, eo47⟩ := Kd.R_slice HO1116.out; subst eo47) | ((with_reducible refine gate_callee (f := 51) rfl ?_); refine goesL_ (some 59) rfl rfl Try.func51 (by kernel_rfl) rfl #[.slice Ao47 t1114.length co47, .slice Ao22 t1091.length co22] rfl lm_ ?_; (with_reducible refine (laws_eqTallyS.calls kj13 _ _ t1114 _ _ t1091 true _ ?side1 ?side2 ?side3 ?side4 A38.out).mono ?_); (case side1 => repeat (first | exact (Kd.R_reads' HO1116.out).2.2 | (with_reducible refine Kd.C_alloc ?_ _) | (with_reducible refine Kd.C_drewN ?_ _) | (with_reducible refine Kd.C_drew ?_))); (case side2 => exact (Kd.R_reads' HO1116.out).2.1); (case side3 => repeat (first | exact (Kd.R_reads' HO_4.out).2.2 | (with_reducible refine Kd.C_alloc ?_ _) | (with_reducible refine Kd.C_drewN ?_ _) | (with_reducible refine Kd.C_drew ?_))); (case side4 => exact (Kd.R_reads' HO_4.out).2.1); rintro e w48 ⟨rfl, hb⟩; refine ⟨_, rfl, ?_⟩; have n0_ := Aside0.mk (Kd.R_below (ra_ HO_4.out) hb); have n1_ := Aside0.mk (Kd.R_below (ra_ HO_6.out) hb); have n2_ := Aside0.mk (Kd.R_below (ra_ HO1113.out) hb); have n3_ := Aside0.mk (Kd.R_below (ra_ HO1116.out) hb); have n4_ := Aside0.mk (below_step bl_ hb); clear HO_4; clear HO_6; clear HO1113; clear HO1116; clear HB; have HO_4 := n0_; have HO_6 := n1_; have HO1113 := n2_; have HO1116 := n3_; have HB := n4_; clear n0_ n1_ n2_ n3_ n4_; (try clear hb); (try clear hb2); (try clear hk); (try clear hi)) | ((with_reducible refine gate_callee (f := 53) rfl ?_); refine goesL_ (some 63) rfl rfl Try.func53 (by kernel_rfl) rfl #[.slice Ao21 t1109.length co21, .int .i64 1] rfl (by (try simp only [List.map_toArray, List.map_cons, List.map_nil]); first | done | (rw [show t1109.length = t1097.length from (Kd.R_reads' HO_6.out).1.symm] <;> rfl) | rfl | (simp only [List.length_drop, List.length_take]; rfl)) ?_; (with_reducible refine (laws_heldTallyS.calls kj13 _ _ t1109 1 t1118 _ ?side1 ?side2 A40.out).mono ?_); (case side1 => repeat (first | exact (Kd.R_reads' HO_6.out).2.2 | (with_reducible refine Kd.C_alloc ?_ _) | (with_reducible refine Kd.C_drewN ?_ _) | (with_reducible refine Kd.C_drew ?_))); (case side2 => rw [show t1109.length = t1097.length from (Kd.R_reads' HO_6.out).1.symm]; exact (Kd.R_reads' HO_6.out).2.1); rintro e w' ⟨rfl, ⟨nd, rfl⟩⟩; refine ⟨_, rfl, ?_⟩))
            go_ret
            exact ⟨by first | rfl | (simp [errW_none, errW_some] <;> rfl) | (simp [*, errW_none, errW_some] <;> rfl) | exact False.elim (Bool.noConfusion ((decide_eq_true (of_eq_true (by assumption))).symm.trans (by assumption))), bl_⟩
           ·rw [if_neg c42] at H
            have c42b0 : (t1118 == t1108) = false := beq_eq_false_iff_ne.mpr c42
            have c42b1 : (t1118 != t1108) = true := bne_iff_ne.mpr c42
            exact absurd ((Option.some.inj H).trans HR1.out) (by decide)
         ·replace c39 := Bool.eq_false_iff.mpr c39
          subst c39
          rw [if_neg (show ¬ (false = true) by decide)] at H
          exact absurd ((Option.some.inj H).trans HR1.out) (by decide)
        ·rw [if_neg c35] at H
         have c35b0 : (t1110 == t1108) = false := beq_eq_false_iff_ne.mpr c35
         have c35b1 : (t1110 != t1108) = true := bne_iff_ne.mpr c35
         exact absurd ((Option.some.inj H).trans HR1.out) (by decide)
   ·replace c12 := Bool.eq_false_iff.mpr c12
    subst c12
    rw [if_neg (show ¬ (false = true) by decide)] at H
    exact absurd ((Option.some.inj H).trans HR1.out) (by decide)
  ·replace c9 := Bool.eq_false_iff.mpr c9
   subst c9
   rw [if_neg (show ¬ (false = true) by decide)] at H
   exact absurd ((Option.some.inj H).trans HR1.out) (by decide)

end Go.Proofs.Ytmjlhikflhbdaaa.PA

namespace Go.Proofs.Ytmjlhikflhbdaaa.Op
open Go.RowKit Go.Proofs.YtmjlhikflhbdaaaW.PrintWords
set_option linter.unusedVariables false
set_option linter.unusedSimpArgs false

/-- A whole number is one of its kind. -/
abbrev OkInt (k : IntKind) (n : Int) : Prop := (Lit.int k n).wf = true

/-- A value of type t, read as data, is one of the kind d, with G. -/
structure Opens (P : Program) {α : Type} (d : Kd α) (t : TypeId) (G : α → Prop) : Prop where
 sz : d.sz = P.cellsOf t
 op : ∀ {H : Type} {enc : TypeId × Value → H} {w : World} {n : Nat} {cs : List Value} {x : DataW H × List MemPlace},
  DataW.trod enc P w 0 (fun _ => true) true n t cs = some x → ∃ a, d.K w a cs ∧ G a

theorem opInt {P : Program} {t : TypeId} {k : IntKind} (hu : P.underlying t = some (.int k)) (hc : P.cellsOf t = 1) : Opens P (Kd.int k) t (fun n => (Lit.int k n).wf = true) where
 sz := by rw [hc]; rfl
 op := fun h => by
  obtain ⟨n, rfl, _, hw⟩ := DataW.trod_int hu h
  exact ⟨n, rfl, hw⟩

theorem opBool {P : Program} {t : TypeId} (hu : P.underlying t = some .bool) (hc : P.cellsOf t = 1) : Opens P Kd.bool t (fun _ => True) where
 sz := by rw [hc]; rfl
 op := fun h => by
  obtain ⟨n, rfl, _⟩ := DataW.trod_bool hu h
  exact ⟨n, rfl, trivial⟩

theorem opStr {P : Program} {t : TypeId} (hu : P.underlying t = some .string) (hc : P.cellsOf t = 1) : Opens P Kd.string t (fun s => s.size ≤ 9223372036854775807) where
 sz := by rw [hc]; rfl
 op := fun h => by
  obtain ⟨s, rfl, _, hs⟩ := DataW.trod_string hu h
  exact ⟨s, rfl, hs⟩

theorem chooseList {α : Type} {Q : Nat → α → Prop} : ∀ (n : Nat), (∀ i, i < n → ∃ a, Q i a) → ∃ xs : List α, xs.length = n ∧ ∀ i a, xs[i]? = some a → Q i a
 | 0, _ => ⟨[], rfl, fun i a h => by simp at h⟩
 | n + 1, h => by
  obtain ⟨xs, hl, hx⟩ := chooseList n (fun i hi => h i (by omega))
  obtain ⟨a, ha⟩ := h n (by omega)
  refine ⟨xs ++ [a], by simp [hl], fun i b hb => ?_⟩
  by_cases hi : i < n
  ·rw [List.getElem?_append_left (by omega)] at hb
   exact hx i b hb
  ·rw [List.getElem?_append_right (by omega), hl] at hb
   have : i - n = 0 := by
    rcases Nat.eq_zero_or_pos (i - n) with h0 | h0
    ·exact h0
    ·rw [List.getElem?_eq_none (by simp; omega)] at hb
     simp at hb
   rw [this] at hb
   have hin : i = n := by omega
   simp at hb
   rw [hin, ← hb]
   exact ha

theorem cellsAt {w : World} {a : Addr} {n : Nat} {cs : List Value} (h : w.cells? 0 a n = some cs) : cs.length = n ∧ ∀ i u, cs[i]? = some u → w.cell? (a.add i) = some u := by
 unfold World.cells? at h
 rw [if_pos (Nat.zero_le _)] at h
 have hl : cs.length = n := by simpa using mapM_some_length h
 refine ⟨hl, fun i u hu => ?_⟩
 have hi : i < n := by
  rcases Nat.lt_or_ge i n with h1 | h1
  ·exact h1
  ·rw [List.getElem?_eq_none (by omega)] at hu
   simp at hu
 have := mapM_some_get h i i (by simp [hi])
 rw [this, hu]

theorem opSlice {P : Program} {α : Type} {d : Kd α} {t e : TypeId} {G : α → Prop} (hu : P.underlying t = some (.slice e)) (hc : P.cellsOf t = 1) (E : Nat) (o : Opens P d e G) :
 Opens P (Kd.slice E d) t (fun l => (∀ a ∈ l, G a) ∧ l.length ≤ 9223372036854775807) where
 sz := by rw [hc]; rfl
 op := fun {H enc w n cs x} h => by
  rcases DataW.trod_slice hu h with ⟨rfl, _⟩ | ⟨a, len, cap, elems, rest, m, _, rfl, _, _, hl, hcap, hlen, hel, _⟩
  ·exact ⟨[], ⟨none, 0, rfl, Nat.le_refl _, rfl, by simp, fun h0 => by simp at h0⟩, fun a ha => by simp at ha, by simp⟩
  ·have hcap' : cap ≤ 9223372036854775807 := hcap
   have key : ∀ i, i < len → ∃ b, ∃ c, d.K w b c ∧ G b ∧ c.length = d.sz ∧ ∀ j u, c[j]? = some u → w.cell? ((a.add (i * d.sz)).add j) = some u := by
    intro i hi
    have h1 := hel i hi
    rw [List.getElem?_eq_getElem (by omega)] at h1
    obtain ⟨cs', h2, h3⟩ := Option.bind_eq_some_iff.1 h1
    obtain ⟨b, hK, hG⟩ := o.op h3
    obtain ⟨h4, h5⟩ := cellsAt h2
    rw [← o.sz] at h5
    exact ⟨b, cs', hK, hG, d.K_len hK, h5⟩
   obtain ⟨xs, hx, hall⟩ := chooseList len key
   refine ⟨xs, ⟨some a, cap, by rw [hx], by omega, rfl, by omega, fun _ => ⟨a, rfl, fun j p hp => ?_⟩⟩, fun b hb => ?_, by omega⟩
   ·obtain ⟨c, hK, _, hs, hcell⟩ := hall j p hp
    exact ⟨c, hs, hK, fun i u hiu => by rw [← Addr.add_add]; exact hcell i u hiu⟩
   ·obtain ⟨i, hi, rfl⟩ := List.getElem_of_mem hb
    obtain ⟨_, _, hG, _⟩ := hall i _ (List.getElem?_eq_getElem hi)
    exact hG

/-- A struct's fields from one on, one behind the other. -/
structure Fields (P : Program) (off : Nat) (fs : List Field) {α : Type} (d : Kd α) (G : α → Prop) : Prop where
 op : ∀ {H : Type} {enc : TypeId × Value → H} {w : World} {n : Nat} {cs : List Value}, cs.length = off + d.sz →
  (∀ f ∈ fs, ∃ y, DataW.trod enc P w 0 (fun _ => true) true n f.type ((cs.drop f.offset).take (P.cellsOf f.type)) = some y) → ∃ a, d.K w a (cs.drop off) ∧ G a

theorem fieldsOne {P : Program} {off : Nat} {f : Field} {α : Type} {d : Kd α} {G : α → Prop} (o : Opens P d f.type G) (hf : f.offset = off) : Fields P off [f] d G where
 op := fun {H enc w n cs} hl h => by
  obtain ⟨y, hy⟩ := h f (by simp)
  rw [hf, List.take_of_length_le (by rw [← o.sz]; simp; omega)] at hy
  exact o.op hy

theorem fieldsCons {P : Program} {off : Nat} {f : Field} {fs : List Field} {α β : Type} {d : Kd α} {d' : Kd β} {G : α → Prop} {G' : β → Prop} (o : Opens P d f.type G) (hf : f.offset = off) (r : Fields P (off + d.sz) fs d' G') :
 Fields P off (f :: fs) (Kd.pair d d') (fun x => G x.1 ∧ G' x.2) where
 op := fun {H enc w n cs} hl h => by
  have hl' : cs.length = off + (d.sz + d'.sz) := hl
  obtain ⟨y, hy⟩ := h f (by simp)
  rw [hf] at hy
  obtain ⟨a, ha, hg⟩ := o.op hy
  obtain ⟨b, hb, hg'⟩ := r.op (by omega) (fun g hg => h g (by simp [hg]))
  refine ⟨(a, b), ⟨_, _, ?_, ha, hb⟩, hg, hg'⟩
  rw [← o.sz, show cs.drop (off + d.sz) = (cs.drop off).drop d.sz from (List.drop_drop ..).symm]
  exact (List.take_append_drop _ _).symm

theorem opStruct {P : Program} {t : TypeId} {fs : Array Field} {α β : Type} {d : Kd α} {f : β → α} {G : α → Prop} {G' : β → Prop} (hu : P.underlying t = some (.struct fs)) (hc : P.cellsOf t = d.sz)
 (r : Fields P 0 fs.toList d G) (g : α → β) (hfg : ∀ a, f (g a) = a) (hG : ∀ a, G a → G' (g a)) : Opens P (Kd.iso d f) t G' where
 sz := by rw [hc]; rfl
 op := fun {H enc w n cs x} h => by
  obtain ⟨xs, m, rfl, _, hl, hxs, hall⟩ := DataW.trod_struct hu h
  obtain ⟨a, ha, hGa⟩ := r.op (w := w) (n := m) (cs := cs) (by omega) (fun f' hf' => by
   obtain ⟨i, hi, rfl⟩ := List.getElem_of_mem hf'
   have hi' : i < fs.size := by simpa using hi
   have h1 := hall i fs.toList[i] (by simp [hi'])
   rw [List.getElem?_eq_getElem (by omega)] at h1
   exact ⟨_, h1⟩)
  rw [List.drop_zero] at ha
  refine ⟨g a, ?_, hG a hGa⟩
  show d.K w (f (g a)) cs
  rw [hfg]
  exact ha
end Go.Proofs.Ytmjlhikflhbdaaa.Op

namespace Go.Proofs.Ytmjlhikflhbdaaa.PureFnExactTalliesOf
open Go.RowKit Go.Proofs.Ytmjlhikflhbdaaa.PA
def ok133 (x : S133) : Prop := (Op.OkInt .i64 x.f0) ∧ (Op.OkInt .i64 x.f1) ∧ (Op.OkInt .i64 x.f2) ∧ (Op.OkInt .i64 x.f3)
def ok135 (x : S135) : Prop := (Op.OkInt .i64 x.f0) ∧ (Op.OkInt .i64 x.f1) ∧ (ok133 x.f2)
def Stated : Prop := ∀ (x0 : List S135), ((∀ e_ ∈ x0, ok135 e_) ∧ x0.length ≤ 9223372036854775807) → ∃ k, laws_FnExactTalliesOf.f k x0 = some true
end Go.Proofs.Ytmjlhikflhbdaaa.PureFnExactTalliesOf

namespace Go.Proofs.Ytmjlhikflhbdaaa.Kit
open Go.RowKit Go.Proofs.YtmjlhikflhbdaaaW.PrintWords Go.Proofs.YtmjlhikflhbdaaaW.PrintLast Go.Proofs.YtmjlhikflhbdaaaW.PrintMore
set_option linter.unusedVariables false
set_option linter.unusedSimpArgs false

theorem w64 {x : Int} (h0 : -9223372036854775808 ≤ x) (h1 : x ≤ 9223372036854775807) : wrap64 x = x := by unfold wrap64; omega

section
variable {α β : Type}
theorem evSucc {g : Nat → Option α} {r : α} (h : Ev (fun k => g (k + 1)) r) : Ev g r := Ev.step (fun _ => rfl) h
theorem evPos {c : Prop} [Decidable c] {g f : Nat → Option α} {r : α} (hc : c) (h : Ev g r) : Ev (fun k => if c then g k else f k) r := Ev.congr (fun k => if_pos hc) h
theorem evNeg {c : Prop} [Decidable c] {g f : Nat → Option α} {r : α} (hc : ¬ c) (h : Ev f r) : Ev (fun k => if c then g k else f k) r := Ev.congr (fun k => if_neg hc) h
theorem evIte {c : Prop} [Decidable c] {g f : Nat → Option α} {r s : α} (h : c → Ev g r) (h' : ¬ c → Ev f s) : Ev (fun k => if c then g k else f k) (if c then r else s) := by
 by_cases hc : c
 ·rw [if_pos hc]; exact evPos hc (h hc)
 ·rw [if_neg hc]; exact evNeg hc (h' hc)
theorem evSome (r : α) : Ev (fun _ => some r) r := Ev.now r
theorem evEq {g : Nat → Option α} {r s : α} (h : Ev g r) (e : r = s) : Ev g s := e ▸ h
/-- A value that needs no rounds. -/
theorem evBindS {x : Option α} {f : Nat → α → Option β} {a : α} {r : β} (h : x = some a) (k : Ev (fun n => f n a) r) : Ev (fun n => x.bind (f n)) r := by subst h; exact k
theorem evConst {x : Option α} {r : α} (h : x = some r) : Ev (fun _ => x) r := by subst h; exact Ev.now r
end

section
variable {α β : Type}
/-- A loop that counts up: from the last place back to the first. -/
theorem evUp {r : α} (n : Nat) (g : Nat → Nat → Option α) (step : ∀ i, i < n → Ev (g (i + 1)) r → Ev (g i) r) (last : Ev (g n) r) : Ev (g 0) r := by
 have key : ∀ d i, i + d = n → Ev (g i) r := by
  intro d
  induction d with
  | zero => intro i hi; rw [show i = n by omega]; exact last
  | succ d ih => intro i hi; exact step i (by omega) (ih (i + 1) (by omega))
 exact key n 0 (by omega)
theorem fillStep (f : α → β) (z : β) (l : List α) (i : Nat) (hi : i < l.length) :
 ((l.take i).map f ++ List.replicate (l.length - i) z).set i (f l[i]) = (l.take (i + 1)).map f ++ List.replicate (l.length - (i + 1)) z := by
 have h1 : ((l.take i).map f).length = i := by simp; omega
 rw [show l.length - i = (l.length - (i + 1)) + 1 by omega, List.replicate_succ, List.set_append_right _ _ (by omega), h1, Nat.sub_self, List.set_cons_zero,
  List.take_succ_eq_append_getElem hi, List.map_append, List.append_assoc]
 rfl
theorem takeSnoc (l : List α) (i : Nat) (hi : i < l.length) : l.take (i + 1) = l.take i ++ [l[i]] := List.take_succ_eq_append_getElem hi
theorem ci (i : Nat) : (i : Int) + 1 = ((i + 1 : Nat) : Int) := by omega
theorem sizeApp (a b : ByteArray) : (a ++ b).size = a.size + b.size := ByteArray.size_append
end

theorem okI64 {n : Int} (h : (Lit.int .i64 n).wf = true) : -9223372036854775808 ≤ n ∧ n ≤ 9223372036854775807 := by
 simp [Lit.wf, IntKind.min, IntKind.max, IntKind.signed, IntKind.bits] at h
 omega
end Go.Proofs.Ytmjlhikflhbdaaa.Kit

namespace Go.Proofs.Ytmjlhikflhbdaaa.Pure
open Go.RowKit Go.Proofs.Ytmjlhikflhbdaaa.PA Go.Proofs.YtmjlhikflhbdaaaW.PrintWords Go.Proofs.YtmjlhikflhbdaaaW.PrintLast Go.Proofs.YtmjlhikflhbdaaaW.PrintMore Go.Proofs.Ytmjlhikflhbdaaa.Kit Go.Proofs.Ytmjlhikflhbdaaa.PureFnExactTalliesOf
set_option linter.unusedVariables false
set_option linter.unusedSimpArgs false
def cvEntry (x : S135) : S131 := ⟨x.f0, x.f1, ⟨x.f2.f0, x.f2.f1, x.f2.f2, x.f2.f3⟩⟩
theorem rdLE (l : List S135) (i : Nat) (hi : i < l.length) : rd_T135 l (i : Int) = l[i] := by simp [rd_T135, hi]
theorem rdE (l : List S131) (i : Nat) (hi : i < l.length) : rd_T131 l (i : Int) = l[i] := by simp [rd_T131, hi]
theorem ev_toEntryS (l : List S135) (hl : l.length ≤ 1048576) : Ev (fun k => laws_toEntryS.f k l) (l.map cvEntry) := by
 have key := evUp (r := l.map cvEntry) l.length (fun i k => laws_toEntryS.l0 k l ((l.take i).map cvEntry ++ List.replicate (l.length - i) z131) (i : Int)) ?_ ?_
 ·refine Ev.congr (fun k => ?_) key
  unfold laws_toEntryS.f
  rw [if_pos (by omega), if_pos (by omega)]
  simp
 ·intro i hi ih
  refine evSucc ?_
  simp only [laws_toEntryS.l0]
  refine evPos (by omega) (evPos (by omega) ?_)
  simp only [laws_toEntry.f, laws_toItem.f, Option.bind_some, rdLE l i hi]
  refine evPos (by simp; omega) ?_
  rw [w64 (by omega) (by omega), ci, Int.toNat_natCast]
  rw [show (⟨l[i].f0, l[i].f1, ⟨l[i].f2.f0, l[i].f2.f1, l[i].f2.f2, l[i].f2.f3⟩⟩ : S131) = cvEntry l[i] from rfl, fillStep cvEntry _ l i hi]
  exact ih
 ·refine evSucc ?_
  simp only [laws_toEntryS.l0]
  refine evNeg (by omega) ?_
  simp
  exact Ev.now _
theorem eqEntryRefl (a b c d e f : Int) : laws_eqEntry.f a b c d e f a b c d e f = some true := by simp [laws_eqEntry.f, laws_eqItem.f]
theorem ev_eqEntryS (l : List S131) (hl : l.length ≤ 1048576) : Ev (fun k => laws_eqEntryS.f k l l) true := by
 have key := evUp (r := true) l.length (fun i k => laws_eqEntryS.l0 k l l (i : Int)) ?_ ?_
 ·refine Ev.congr (fun k => ?_) key
  unfold laws_eqEntryS.f
  rw [if_pos rfl]
  rfl
 ·intro i hi ih
  refine evSucc ?_
  simp only [laws_eqEntryS.l0]
  refine evPos (by omega) (evPos (by omega) (evPos (by omega) ?_))
  simp only [eqEntryRefl, Option.bind_some, if_true]
  rw [w64 (by omega) (by omega), ci]
  exact ih
 ·refine evSucc ?_
  simp only [laws_eqEntryS.l0]
  exact evNeg (by omega) (Ev.now _)
theorem szEntryS_small (l : List S135) (h : l.length ≤ 1048576) : laws_szEntryS.f l 1048576 = some (1048576 - (l.length : Int)) := by
 unfold laws_szEntryS.f
 rw [w64 (by omega) (by omega), if_neg (by omega)]
theorem szEntryS_big (l : List S135) (h : 1048576 < l.length) (hb : l.length ≤ 9223372036854775807) : laws_szEntryS.f l 1048576 = some (-1) := by
 unfold laws_szEntryS.f
 rw [w64 (by omega) (by omega), if_pos (by omega)]
def StrictS (l : List Int) : Prop := l.Pairwise (· < ·)
theorem strict_eq : ∀ (a b : List Int), StrictS a → StrictS b → (∀ x, x ∈ a ↔ x ∈ b) → a = b := by
 intro a
 induction a with
 | nil =>
  intro b _ _ h
  cases b with
  | nil => rfl
  | cons y b => exact absurd ((h y).2 (List.mem_cons_self ..)) (List.not_mem_nil)
 | cons x a ih =>
  intro b ha hb h
  cases b with
  | nil => exact absurd ((h x).1 (List.mem_cons_self ..)) (List.not_mem_nil)
  | cons y b =>
   have ha' := List.pairwise_cons.1 ha
   have hb' := List.pairwise_cons.1 hb
   have hxy : x = y := by
    rcases List.mem_cons.1 ((h x).1 (List.mem_cons_self ..)) with e | e
    ·exact e
    ·rcases List.mem_cons.1 ((h y).2 (List.mem_cons_self ..)) with e2 | e2
     ·exact e2.symm
     ·have h1 := hb'.1 x e
      have h2 := ha'.1 y e2
      omega
   subst hxy
   rw [ih b ha'.2 hb'.2 (fun z => ?_)]
   constructor
   ·intro hz
    rcases List.mem_cons.1 ((h z).1 (List.mem_cons_of_mem _ hz)) with e | e
    ·have := ha'.1 z hz; omega
    ·exact e
   ·intro hz
    rcases List.mem_cons.1 ((h z).2 (List.mem_cons_of_mem _ hz)) with e | e
    ·have := hb'.1 z hz; omega
    ·exact e
def insS (x : Int) : List Int → List Int
 | [] => [x]
 | y :: l => if x < y then x :: y :: l else y :: insS x l
theorem insS_mem (x : Int) : ∀ l z, z ∈ insS x l ↔ z = x ∨ z ∈ l := by
 intro l
 induction l with
 | nil => intro z; simp [insS]
 | cons y l ih =>
  intro z
  unfold insS
  split
  ·rw [List.mem_cons]
  ·rw [List.mem_cons, ih z, List.mem_cons]
   constructor
   ·rintro (e | e | e)
    ·exact Or.inr (Or.inl e)
    ·exact Or.inl e
    ·exact Or.inr (Or.inr e)
   ·rintro (e | e | e)
    ·exact Or.inr (Or.inl e)
    ·exact Or.inl e
    ·exact Or.inr (Or.inr e)
theorem insS_strict (x : Int) : ∀ l, StrictS l → x ∉ l → StrictS (insS x l) := by
 intro l
 induction l with
 | nil => intro _ _; exact List.pairwise_singleton _ _
 | cons y l ih =>
  intro h hx
  have h' := List.pairwise_cons.1 h
  unfold insS
  split
  ·rename_i hlt
   refine List.pairwise_cons.2 ⟨fun z hz => ?_, h⟩
   rcases List.mem_cons.1 hz with e | e
   ·omega
   ·have := h'.1 z e; omega
  ·rename_i hlt
   refine List.pairwise_cons.2 ⟨fun z hz => ?_, ih h'.2 (fun e => hx (List.mem_cons_of_mem _ e))⟩
   rcases (insS_mem x l z).1 hz with e | e
   ·have : x ≠ y := fun e2 => hx (by rw [e2]; exact List.mem_cons_self ..)
    omega
   ·exact h'.1 z e
theorem insS_len (x : Int) : ∀ l, (insS x l).length = l.length + 1 := by
 intro l
 induction l with
 | nil => rfl
 | cons y l ih =>
  unfold insS
  split
  ·rfl
  ·rw [List.length_cons, ih, List.length_cons]
def putAll : List Int → List Int → List Int
 | [], acc => acc
 | x :: l, acc => putAll l (if x ∈ acc then acc else insS x acc)
theorem putAll_law : ∀ l acc, StrictS acc → StrictS (putAll l acc) ∧ ∀ z, z ∈ putAll l acc ↔ z ∈ acc ∨ z ∈ l := by
 intro l
 induction l with
 | nil => intro acc h; exact ⟨h, fun z => by simp [putAll]⟩
 | cons x l ih =>
  intro acc h
  unfold putAll
  by_cases hx : x ∈ acc
  ·rw [if_pos hx]
   obtain ⟨h1, h2⟩ := ih acc h
   refine ⟨h1, fun z => ?_⟩
   rw [h2 z, List.mem_cons]
   constructor
   ·rintro (e | e)
    ·exact Or.inl e
    ·exact Or.inr (Or.inr e)
   ·rintro (e | e | e)
    ·exact Or.inl e
    ·rw [e]; exact Or.inl hx
    ·exact Or.inr e
  ·rw [if_neg hx]
   obtain ⟨h1, h2⟩ := ih (insS x acc) (insS_strict x acc h hx)
   refine ⟨h1, fun z => ?_⟩
   rw [h2 z, insS_mem, List.mem_cons]
   constructor
   ·rintro ((e | e) | e)
    ·exact Or.inr (Or.inl e)
    ·exact Or.inl e
    ·exact Or.inr (Or.inr e)
   ·rintro (e | e | e)
    ·exact Or.inl (Or.inr e)
    ·exact Or.inl (Or.inl e)
    ·exact Or.inr e
theorem putAll_len : ∀ l acc, (putAll l acc).length ≤ acc.length + l.length := by
 intro l
 induction l with
 | nil => intro acc; exact Nat.le_refl _
 | cons x l ih =>
  intro acc
  unfold putAll
  split
  ·have := ih acc; rw [List.length_cons]; omega
  ·have := ih (insS x acc); rw [insS_len] at this; rw [List.length_cons]; omega
def srtS (l : List Int) : List Int := l.mergeSort fun x y => decide (x ≤ y)
theorem srtS_len (l : List Int) : (srtS l).length = l.length := List.length_mergeSort _
theorem srtS_mem (l : List Int) (z : Int) : z ∈ srtS l ↔ z ∈ l := (List.mergeSort_perm l _).mem_iff
theorem srtS_sorted (l : List Int) : (srtS l).Pairwise (· ≤ ·) := by
 have := List.pairwise_mergeSort (le := fun x y : Int => decide (x ≤ y)) (fun a b c h1 h2 => by simp at *; omega) (fun a b => by simp; omega) l
 exact this.imp (fun h => by simpa using h)
theorem sorted_at (d : List Int) (h : d.Pairwise (· ≤ ·)) (i j : Nat) (hij : i ≤ j) (hj : j < d.length) : d.toArray[i]! ≤ d.toArray[j]! := by
 rcases Nat.lt_or_eq_of_le hij with hlt | rfl
 ·have := (List.pairwise_iff_getElem.1 h) i j (by omega) hj hlt
  simp [hj, show i < d.length by omega]
  exact this
 ·exact Int.le_refl _
theorem upTo_law (d : List Int) (h : d.Pairwise (· ≤ ·)) : ∀ m, m ≤ d.length → StrictS (Go.Lib.compactUpTo d.toArray m) ∧ (∀ z, z ∈ Go.Lib.compactUpTo d.toArray m ↔ ∃ j, j < m ∧ d.toArray[j]! = z) := by
 intro m
 induction m with
 | zero =>
  intro _
  refine ⟨List.Pairwise.nil, fun z => ?_⟩
  constructor
  ·intro hz; exact absurd hz (by simp [Go.Lib.compactUpTo])
  ·rintro ⟨j, hj, _⟩; omega
 | succ m ih =>
  intro hm
  obtain ⟨h1, h2⟩ := ih (by omega)
  rw [Go.Lib.compactUpTo_succ]
  by_cases hk : Go.Lib.keeps d.toArray m = true
  ·rw [if_pos hk]
   refine ⟨?_, fun z => ?_⟩
   ·refine List.pairwise_append.2 ⟨h1, List.pairwise_singleton _ _, fun x hx y hy => ?_⟩
    rw [List.mem_singleton] at hy
    subst hy
    obtain ⟨j, hj, rfl⟩ := (h2 x).1 hx
    have hne : d.toArray[m]! ≠ d.toArray[m - 1]! := by
     unfold Go.Lib.keeps at hk
     rw [decide_eq_true_eq] at hk
     rcases hk with e | e
     ·omega
     ·exact e
    have a1 := sorted_at d h j (m - 1) (by omega) (by omega)
    have a2 := sorted_at d h (m - 1) m (by omega) (by omega)
    omega
   ·rw [List.mem_append, h2 z, List.mem_singleton]
    constructor
    ·rintro (⟨j, hj, e⟩ | e)
     ·exact ⟨j, by omega, e⟩
     ·exact ⟨m, by omega, e.symm⟩
    ·rintro ⟨j, hj, e⟩
     by_cases hjm : j = m
     ·subst hjm; exact Or.inr e.symm
     ·exact Or.inl ⟨j, by omega, e⟩
  ·rw [if_neg hk, List.append_nil]
   refine ⟨h1, fun z => ?_⟩
   rw [h2 z]
   have hk' : ¬ (m = 0 ∨ d.toArray[m]! ≠ d.toArray[m - 1]!) := by
    intro c; apply hk; unfold Go.Lib.keeps; exact decide_eq_true c
   constructor
   ·rintro ⟨j, hj, e⟩; exact ⟨j, by omega, e⟩
   ·rintro ⟨j, hj, e⟩
    by_cases hjm : j = m
    ·subst hjm
     refine ⟨j - 1, by omega, ?_⟩
     rw [← e]
     apply Classical.byContradiction
     intro hn
     exact hk' (Or.inr (fun z => hn z.symm))
    ·exact ⟨j, by omega, e⟩
theorem compact_putAll (l : List Int) : Go.Lib.compact (srtS l) = putAll l [] := by
 obtain ⟨h1, h2⟩ := upTo_law (srtS l) (srtS_sorted l) (srtS l).length (Nat.le_refl _)
 obtain ⟨h3, h4⟩ := putAll_law l [] List.Pairwise.nil
 refine strict_eq _ _ h1 h3 (fun z => ?_)
 rw [h4 z]
 show z ∈ Go.Lib.compactUpTo (srtS l).toArray (srtS l).length ↔ _
 rw [h2 z]
 constructor
 ·rintro ⟨j, hj, e⟩
  refine Or.inr ((srtS_mem l z).1 ?_)
  rw [← e]
  simp [hj]
 ·rintro (e | e)
  ·cases e
  ·obtain ⟨j, hj, e2⟩ := List.getElem_of_mem ((srtS_mem l z).2 e)
   exact ⟨j, hj, by simp [hj]; exact e2⟩
theorem rdI (l : List Int) (i : Nat) (hi : i < l.length) : rd l (i : Int) = l[i] := by simp [rd, hi]
theorem ev_l09In (l : List Int) (x : Int) (hl : l.length ≤ 4194304) : Ev (fun k => spec_l09In.f k l x) (decide (x ∈ l)) := by
 have key : ∀ d i, i + d = l.length → Ev (fun k => spec_l09In.l0 k l x (i : Int)) (decide (x ∈ l.drop i)) := by
  intro d
  induction d with
  | zero =>
   intro i hi
   refine evSucc ?_
   simp only [spec_l09In.l0]
   rw [List.drop_of_length_le (by omega)]
   exact evNeg (by omega) (evEq (Ev.now _) (by simp))
  | succ d ih =>
   intro i hi
   have hlt : i < l.length := by omega
   refine evSucc ?_
   simp only [spec_l09In.l0]
   refine evPos (by omega) (evPos (by omega) ?_)
   rw [rdI l i hlt, w64 (by omega) (by omega), ci, List.drop_eq_getElem_cons hlt]
   by_cases hc : l[i] = x
   ·exact evPos hc (evEq (Ev.now _) (by rw [hc]; simp))
   ·refine evNeg hc (evEq (ih (i + 1) (by omega)) ?_)
    rw [Bool.eq_iff_iff, decide_eq_true_eq, decide_eq_true_eq, List.mem_cons]
    exact ⟨fun h => Or.inr h, fun h => h.elim (fun e => absurd e.symm hc) id⟩
 exact key l.length 0 (by omega)
theorem ev_l23Put (l : List Int) (x : Int) (hl : l.length ≤ 4194304) : Ev (fun k => spec_l23Put.f k l x) (insS x l) := by
 have put : ∀ d i out, i + d = l.length → out.length ≤ i + 1 → Ev (fun k => spec_l23Put.l0 k l x out true (i : Int)) (out ++ l.drop i) := by
  intro d
  induction d with
  | zero =>
   intro i out hi ho
   refine evSucc ?_
   simp only [spec_l23Put.l0]
   rw [List.drop_of_length_le (by omega), List.append_nil]
   exact evNeg (by omega) (evPos trivial (Ev.now _))
  | succ d ih =>
   intro i out hi ho
   have hlt : i < l.length := by omega
   refine evSucc ?_
   simp only [spec_l23Put.l0]
   refine evPos (by omega) (evPos trivial (evPos (by omega) (evPos (by omega) ?_)))
   rw [rdI l i hlt, w64 (by omega) (by omega), ci]
   refine evEq (ih (i + 1) (out ++ [l[i]]) (by omega) (by rw [List.length_append, List.length_singleton]; omega)) ?_
   rw [List.drop_eq_getElem_cons hlt, List.append_assoc]
   rfl
 have key : ∀ d i out, i + d = l.length → out.length ≤ i → Ev (fun k => spec_l23Put.l0 k l x out false (i : Int)) (out ++ insS x (l.drop i)) := by
  intro d
  induction d with
  | zero =>
   intro i out hi ho
   refine evSucc ?_
   simp only [spec_l23Put.l0]
   rw [List.drop_of_length_le (by omega)]
   exact evNeg (by omega) (evNeg (by simp) (evPos (by omega) (Ev.now _)))
  | succ d ih =>
   intro i out hi ho
   have hlt : i < l.length := by omega
   refine evSucc ?_
   simp only [spec_l23Put.l0]
   refine evPos (by omega) (evNeg (by simp) (evPos (by omega) ?_))
   rw [rdI l i hlt, w64 (by omega) (by omega), ci, List.drop_eq_getElem_cons hlt]
   unfold insS
   by_cases hc : x < l[i]
   ·rw [if_pos hc]
    refine evPos hc (evPos (by omega) ?_)
    simp only [Option.bind_some]
    refine evPos (by rw [List.length_append, List.length_singleton]; omega) ?_
    refine evEq (put d (i + 1) ((out ++ [x]) ++ [l[i]]) (by omega) (by rw [List.length_append, List.length_append, List.length_singleton, List.length_singleton]; omega)) ?_
    rw [List.append_assoc, List.append_assoc]
    rfl
   ·rw [if_neg hc]
    refine evNeg hc (evPos (by omega) ?_)
    refine evEq (ih (i + 1) (out ++ [l[i]]) (by omega) (by rw [List.length_append, List.length_singleton]; omega)) ?_
    rw [List.append_assoc]
    rfl
 exact key l.length 0 [] (by omega) (Nat.le_refl _)
theorem sort_f (l : List Int) (h : l.length ≤ 4194304) : slices_Sort_int_int.f l = some (srtS l) := if_pos (by omega)
def evB (e : S131) : Bool := e.f2.f0 == 1
def evN (e : S131) : Int := e.f2.f1
def evsL (L : List S131) : List Int := (L.filter evB).map evN
def cntI (x : Int) : List Int → Nat
 | [] => 0
 | y :: l => (if y = x then 1 else 0) + cntI x l
theorem cntI_append (x : Int) : ∀ a b, cntI x (a ++ b) = cntI x a + cntI x b := by
 intro a
 induction a with
 | nil => intro b; simp [cntI]
 | cons y a ih =>
  intro b
  show (if y = x then 1 else 0) + cntI x (a ++ b) = ((if y = x then 1 else 0) + cntI x a) + cntI x b
  rw [ih b, Nat.add_assoc]
theorem cntI_perm (x : Int) {a b : List Int} (h : a.Perm b) : cntI x a = cntI x b := by
 induction h with
 | nil => rfl
 | cons y _ ih => unfold cntI; rw [ih]
 | swap y z l => unfold cntI cntI; omega
 | trans _ _ i1 i2 => rw [i1, i2]
theorem cntI_none (x : Int) : ∀ l, x ∉ l → cntI x l = 0 := by
 intro l
 induction l with
 | nil => intro _; rfl
 | cons y l ih =>
  intro h
  unfold cntI
  rw [if_neg (fun e => h (by rw [e]; exact List.mem_cons_self ..)), ih (fun e => h (List.mem_cons_of_mem _ e))]
theorem cntI_le (x : Int) : ∀ l, cntI x l ≤ l.length := by
 intro l
 induction l with
 | nil => exact Nat.le_refl _
 | cons y l ih => unfold cntI; rw [List.length_cons]; split <;> omega
def talOf (ns : List Int) (L : List Int) : List S65 := ns.map (fun n => ⟨n, (cntI n L : Int)⟩)
def tallies (L : List S131) : List S65 := talOf (putAll (evsL L) []) (evsL L)
theorem rdT (l : List S65) (i : Nat) (hi : i < l.length) : rd_T65 l (i : Int) = l[i] := by simp [rd_T65, hi]
theorem evsL_len (L : List S131) : (evsL L).length ≤ L.length := by
 unfold evsL
 rw [List.length_map]
 exact List.length_filter_le _ _
theorem tallies_len (L : List S131) : (tallies L).length ≤ L.length := by
 unfold tallies talOf
 have := putAll_len (evsL L) []
 have := evsL_len L
 rw [List.length_map]
 rw [List.length_nil] at *
 omega
theorem ev_spec_TalliesOf (L : List S131) (hL : L.length ≤ 1048576) : Ev (fun k => spec_TalliesOf.f k L) (tallies L) := by
 have third : ∀ (ns : List Int) (hns : ns.length ≤ 1048576) (out : List S65) (j : Nat) (hj : j < ns.length) (ho : out.length ≤ 1048576) (r : List S65),
  Ev (fun k => spec_TalliesOf.l1 k L ns (out ++ [⟨ns[j], (cntI ns[j] (evsL L) : Int)⟩]) ((j + 1 : Nat) : Int)) r → Ev (fun k => spec_TalliesOf.l2 k L ns out (j : Int) 0 0) r := by
  intro ns hns out j hj ho r hr
  have key : ∀ d i, i + d = L.length → Ev (fun k => spec_TalliesOf.l2 k L ns out (j : Int) (cntI ns[j] (evsL (L.take i)) : Int) (i : Int)) r := by
   intro d
   induction d with
   | zero =>
    intro i hi
    obtain rfl : i = L.length := by omega
    refine evSucc ?_
    simp only [spec_TalliesOf.l2]
    rw [List.take_length]
    refine evNeg (by omega) (evPos (by omega) (evPos (by omega) (evPos (by omega) ?_)))
    rw [rdI ns j hj, w64 (by omega) (by omega), ci]
    exact hr
   | succ d ih =>
    intro i hi
    have hlt : i < L.length := by omega
    have hc := cntI_le ns[j] (evsL (L.take i))
    have hc2 := evsL_len (L.take i)
    rw [List.length_take] at hc2
    refine evSucc ?_
    simp only [spec_TalliesOf.l2]
    refine evPos (by omega) (evPos (by omega) ?_)
    rw [rdE L i hlt, w64 (x := (i : Int) + 1) (by omega) (by omega), w64 (x := (cntI ns[j] (evsL (L.take i)) : Int) + 1) (by omega) (by omega), ci i]
    have nxt := ih (i + 1) (by omega)
    have hs : evsL (L.take (i + 1)) = evsL (L.take i) ++ (if evB L[i] = true then [evN L[i]] else []) := by
     rw [takeSnoc L i hlt]
     unfold evsL
     rw [List.filter_append, List.map_append]
     congr 1
     cases h : evB L[i] <;> simp [List.filter, h]
    by_cases h1 : L[i].f2.f0 = 1
    ·have hb : evB L[i] = true := beq_iff_eq.2 h1
     rw [hs, if_pos hb, cntI_append] at nxt
     refine evPos h1 (evPos (by omega) (evPos (by omega) ?_))
     rw [rdI ns j hj]
     by_cases h2 : L[i].f2.f1 = ns[j]
     ·refine evPos h2 ?_
      have e : cntI ns[j] [evN L[i]] = 1 := by unfold cntI cntI; rw [if_pos (show evN L[i] = ns[j] from h2)]
      rw [e, show ((cntI ns[j] (evsL (L.take i)) + 1 : Nat) : Int) = (cntI ns[j] (evsL (L.take i)) : Int) + 1 by omega] at nxt
      exact nxt
     ·refine evNeg h2 ?_
      have e : cntI ns[j] [evN L[i]] = 0 := by unfold cntI cntI; rw [if_neg (show ¬ evN L[i] = ns[j] from h2)]
      rw [e, Nat.add_zero] at nxt
      exact nxt
    ·have hb : evB L[i] = false := beq_eq_false_iff_ne.2 h1
     rw [hs, if_neg (by rw [hb]; decide), List.append_nil] at nxt
     exact evNeg h1 nxt
  exact key L.length 0 (by omega)
 have second : ∀ (ns : List Int) (hns : ns.length ≤ 1048576), Ev (fun k => spec_TalliesOf.l1 k L ns [] 0) (talOf ns (evsL L)) := by
  intro ns hns
  have key : ∀ d j, j + d = ns.length → Ev (fun k => spec_TalliesOf.l1 k L ns (talOf (ns.take j) (evsL L)) (j : Int)) (talOf ns (evsL L)) := by
   intro d
   induction d with
   | zero =>
    intro j hj
    obtain rfl : j = ns.length := by omega
    refine evSucc ?_
    simp only [spec_TalliesOf.l1]
    rw [List.take_length]
    exact evNeg (by omega) (Ev.now _)
   | succ d ih =>
    intro j hj
    have hlt : j < ns.length := by omega
    refine evSucc ?_
    simp only [spec_TalliesOf.l1]
    refine evPos (by omega) (third ns hns _ j hlt (by unfold talOf; rw [List.length_map, List.length_take]; omega) _ ?_)
    have := ih (j + 1) (by omega)
    rw [takeSnoc ns j hlt] at this
    unfold talOf at this ⊢
    rw [List.map_append] at this
    exact this
  exact key ns.length 0 (by omega)
 have key : ∀ d i acc, i + d = L.length → acc.length ≤ i → Ev (fun k => spec_TalliesOf.l0 k L acc (i : Int)) (talOf (putAll (evsL (L.drop i)) acc) (evsL L)) := by
  intro d
  induction d with
  | zero =>
   intro i acc hi ha
   refine evSucc ?_
   simp only [spec_TalliesOf.l0]
   rw [List.drop_of_length_le (by omega)]
   exact evNeg (by omega) (second acc (by omega))
  | succ d ih =>
   intro i acc hi ha
   have hlt : i < L.length := by omega
   refine evSucc ?_
   simp only [spec_TalliesOf.l0]
   refine evPos (by omega) (evPos (by omega) ?_)
   rw [rdE L i hlt, w64 (by omega) (by omega), ci, List.drop_eq_getElem_cons hlt]
   by_cases h1 : L[i].f2.f0 = 1
   ·have hb : evB L[i] = true := beq_iff_eq.2 h1
    have he : evsL (L[i] :: L.drop (i + 1)) = evN L[i] :: evsL (L.drop (i + 1)) := by unfold evsL; rw [List.filter_cons_of_pos hb]; rfl
    rw [he]
    refine evPos h1 (Ev.bind (ev_l09In acc L[i].f2.f1 (by omega)) ?_)
    unfold putAll
    by_cases hc : L[i].f2.f1 ∈ acc
    ·refine evPos (decide_eq_true hc) ?_
     rw [show evN L[i] = L[i].f2.f1 from rfl, if_pos hc]
     exact ih (i + 1) acc (by omega) (by omega)
    ·refine evNeg (by rw [decide_eq_true_eq]; exact hc) ?_
     rw [show evN L[i] = L[i].f2.f1 from rfl, if_neg hc]
     exact Ev.bind (ev_l23Put acc L[i].f2.f1 (by omega)) (ih (i + 1) _ (by omega) (by rw [insS_len]; omega))
   ·have hb : evB L[i] = false := beq_eq_false_iff_ne.2 h1
    have he : evsL (L[i] :: L.drop (i + 1)) = evsL (L.drop (i + 1)) := by unfold evsL; rw [List.filter_cons_of_neg (by rw [hb]; decide)]
    rw [he]
    exact evNeg h1 (ih (i + 1) acc (by omega) (by omega))
 exact key L.length 0 [] (by omega) (Nat.le_refl _)
theorem talOf_snoc (p : List Int) (x : Int) (T : List Int) : talOf (p ++ [x]) T = talOf p T ++ [⟨x, (cntI x T : Int)⟩] := by unfold talOf; rw [List.map_append]; rfl
theorem talOf_same (x : Int) (T : List Int) : ∀ p : List Int, (∀ n ∈ p, n ≠ x) → talOf p (T ++ [x]) = talOf p T := by
 intro p h
 unfold talOf
 refine List.map_congr_left (fun n hn => ?_)
 rw [cntI_append]
 have e : cntI n [x] = 0 := by unfold cntI cntI; rw [if_neg (fun z => h n hn z.symm)]
 rw [e, Nat.add_zero]
theorem talOf_len (p T : List Int) : (talOf p T).length = p.length := by unfold talOf; rw [List.length_map]
theorem bang_at (S : List Int) (i : Nat) (h : i < S.length) : S.toArray[i]! = S[i] := by simp [h]
theorem upTo_last (S : List Int) : ∀ m, m < S.length → ∃ p, Go.Lib.compactUpTo S.toArray (m + 1) = p ++ [S.toArray[m]!] := by
 intro m
 induction m with
 | zero =>
  intro h
  refine ⟨[], ?_⟩
  rw [Go.Lib.compactUpTo_succ, if_pos (show Go.Lib.keeps S.toArray 0 = true by unfold Go.Lib.keeps; exact decide_eq_true (Or.inl rfl))]
  rfl
 | succ m ih =>
  intro h
  rw [Go.Lib.compactUpTo_succ]
  by_cases hk : Go.Lib.keeps S.toArray (m + 1) = true
  ·rw [if_pos hk]
   exact ⟨_, rfl⟩
  ·rw [if_neg hk, List.append_nil]
   obtain ⟨p, hp⟩ := ih (by omega)
   refine ⟨p, ?_⟩
   have he : S.toArray[m + 1]! = S.toArray[m]! := by
    apply Classical.byContradiction
    intro hn
    exact hk (by unfold Go.Lib.keeps; exact decide_eq_true (Or.inr (by rw [Nat.add_sub_cancel]; exact hn)))
   rw [he]
   exact hp
theorem upTo_le (d : Array Int) : ∀ m, (Go.Lib.compactUpTo d m).length ≤ m := by
 intro m
 induction m with
 | zero => simp [Go.Lib.compactUpTo]
 | succ m ih =>
  rw [Go.Lib.compactUpTo_succ, List.length_append]
  split
  ·rw [List.length_singleton]; omega
  ·rw [List.length_nil]; omega
theorem ev_impl_runs (S : List Int) (hS : S.Pairwise (· ≤ ·)) (hl : S.length ≤ 1048576) : Ev (fun k => impl_TalliesOf.l1 k [] S (S.length : Int) 0) (talOf (Go.Lib.compact S) S) := by
 have key := evUp (r := talOf (Go.Lib.compact S) S) S.length (fun m k => impl_TalliesOf.l1 k (talOf (Go.Lib.compactUpTo S.toArray m) (S.take m)) S (S.length : Int) (m : Int)) ?_ ?_
 ·refine Ev.congr (fun k => ?_) key
  rfl
 ·intro m hm ih
  have hle := upTo_le S.toArray m
  obtain ⟨hst, hmem⟩ := upTo_law S hS m (by omega)
  have hst1 := (upTo_law S hS (m + 1) (by omega)).1
  have htake : S.take (m + 1) = S.take m ++ [S[m]] := takeSnoc S m hm
  refine evSucc ?_
  simp only [impl_TalliesOf.l1]
  refine evPos (by omega) (evPos (by omega) (evPos (by omega) ?_))
  rw [rdI S m hm, w64 (x := (m : Int) + 1) (by omega) (by omega), ci m, talOf_len]
  rw [Go.Lib.compactUpTo_succ, bang_at S m hm] at hst1 ih
  have fresh : Go.Lib.keeps S.toArray m = true → Ev (fun k => impl_TalliesOf.l1 k (talOf (Go.Lib.compactUpTo S.toArray m) (S.take m) ++ [⟨S[m], 1⟩]) S (S.length : Int) ((m + 1 : Nat) : Int)) (talOf (Go.Lib.compact S) S) := by
   intro hk
   rw [if_pos hk] at hst1 ih
   have hne : ∀ n ∈ Go.Lib.compactUpTo S.toArray m, n ≠ S[m] := by
    intro n hn e
    have := (List.pairwise_append.1 hst1).2.2 n hn S[m] (List.mem_singleton.2 rfl)
    omega
   have hno : S[m] ∉ S.take m := by
    intro hin
    obtain ⟨j, hj, e⟩ := List.getElem_of_mem hin
    rw [List.length_take] at hj
    rw [List.getElem_take] at e
    exact hne S[m] ((hmem S[m]).2 ⟨j, by omega, by rw [bang_at S j (by omega)]; exact e⟩) rfl
   rw [talOf_snoc, htake, talOf_same _ _ _ hne, cntI_append, cntI_none _ _ hno, show cntI S[m] [S[m]] = 1 by unfold cntI cntI; rw [if_pos rfl]] at ih
   exact ih
  cases m with
  | zero =>
   rw [show (Go.Lib.compactUpTo S.toArray 0).length = 0 by simp [Go.Lib.compactUpTo]]
   refine evNeg (by omega) (evPos (by omega) ?_)
   exact fresh (by unfold Go.Lib.keeps; exact decide_eq_true (Or.inl rfl))
  | succ q =>
   obtain ⟨p, hp⟩ := upTo_last S q (by omega)
   rw [bang_at S q (by omega)] at hp
   have hpl : (Go.Lib.compactUpTo S.toArray (q + 1)).length = p.length + 1 := by rw [hp, List.length_append, List.length_singleton]
   have hlast : wrap64 (((Go.Lib.compactUpTo S.toArray (q + 1)).length : Int) - 1) = (p.length : Int) := by rw [w64 (by omega) (by omega)]; omega
   rw [hlast]
   have hout : talOf (Go.Lib.compactUpTo S.toArray (q + 1)) (S.take (q + 1)) = talOf p (S.take (q + 1)) ++ [⟨S[q], (cntI S[q] (S.take (q + 1)) : Int)⟩] := by rw [hp, talOf_snoc]
   have hrd : rd_T65 (talOf (Go.Lib.compactUpTo S.toArray (q + 1)) (S.take (q + 1))) (p.length : Int) = ⟨S[q], (cntI S[q] (S.take (q + 1)) : Int)⟩ := by
    have hl2 : p.length < (talOf (Go.Lib.compactUpTo S.toArray (q + 1)) (S.take (q + 1))).length := by rw [talOf_len]; omega
    rw [rdT _ _ hl2]
    simp only [hout]
    rw [List.getElem_append_right (by rw [talOf_len]; exact Nat.le_refl _)]
    simp [talOf_len]
   rw [hrd]
   have hcl := cntI_le S[q] (S.take (q + 1))
   rw [List.length_take] at hcl
   refine evPos (by omega) (evPos (by omega) (evPos (by omega) ?_))
   by_cases hc : S[q] = S[q + 1]
   ·have hk : ¬ Go.Lib.keeps S.toArray (q + 1) = true := by
     unfold Go.Lib.keeps
     rw [decide_eq_true_eq, bang_at S (q + 1) hm, Nat.add_sub_cancel, bang_at S q (by omega), hc]
     rintro (z | z)
     ·omega
     ·exact z rfl
    rw [if_neg hk, List.append_nil] at ih
    refine evPos hc ?_
    have hne : ∀ n ∈ p, n ≠ S[q + 1] := by
     intro n hn e
     rw [hp] at hst
     have := (List.pairwise_append.1 hst).2.2 n hn S[q] (List.mem_singleton.2 rfl)
     omega
    rw [hp, talOf_snoc, htake, talOf_same _ _ _ hne, cntI_append, hc, show cntI S[q + 1] [S[q + 1]] = 1 by unfold cntI cntI; rw [if_pos rfl]] at ih
    rw [w64 (x := (cntI S[q] (S.take (q + 1)) : Int) + 1) (by omega) (by omega), Int.toNat_natCast, hout, List.set_append_right _ _ (by rw [talOf_len]; exact Nat.le_refl _), talOf_len, Nat.sub_self, List.set_cons_zero, hc]
    exact ih
   ·refine evNeg hc (evPos (by omega) ?_)
    refine fresh ?_
    unfold Go.Lib.keeps
    refine decide_eq_true (Or.inr ?_)
    rw [bang_at S (q + 1) hm, Nat.add_sub_cancel, bang_at S q (by omega)]
    exact fun z => hc z.symm
 ·refine evSucc ?_
  simp only [impl_TalliesOf.l1]
  refine evNeg (by omega) ?_
  rw [List.take_length]
  exact Ev.now _
theorem ev_impl_TalliesOf (L : List S131) (hL : L.length ≤ 1048576) : Ev (fun k => impl_TalliesOf.f k L) (tallies L) := by
 have hn := evsL_len L
 have fin : Ev (fun k => impl_TalliesOf.l1 k [] (srtS (evsL L)) ((evsL L).length : Int) 0) (tallies L) := by
  have h := ev_impl_runs (srtS (evsL L)) (srtS_sorted _) (by rw [srtS_len]; omega)
  rw [srtS_len, compact_putAll] at h
  refine evEq h ?_
  unfold tallies talOf
  refine List.map_congr_left (fun n _ => ?_)
  rw [show cntI n (srtS (evsL L)) = cntI n (evsL L) from cntI_perm n (List.mergeSort_perm _ _)]
 have key := evUp (r := tallies L) L.length (fun i k => impl_TalliesOf.l0 k (evsL (L.take i)) L (L.length : Int) (i : Int)) ?_ ?_
 ·exact key
 ·intro i hi ih
  have hs : evsL (L.take (i + 1)) = evsL (L.take i) ++ (if evB L[i] = true then [evN L[i]] else []) := by
   rw [takeSnoc L i hi]
   unfold evsL
   rw [List.filter_append, List.map_append]
   congr 1
   cases h : evB L[i] <;> simp [List.filter, h]
  have hc2 := evsL_len (L.take i)
  rw [List.length_take] at hc2
  rw [hs] at ih
  refine evSucc ?_
  simp only [impl_TalliesOf.l0]
  refine evPos (by omega) (evPos (by omega) (evPos (by omega) ?_))
  rw [rdE L i hi, w64 (x := (i : Int) + 1) (by omega) (by omega), ci i]
  by_cases h1 : L[i].f2.f0 = 1
  ·rw [if_pos (show evB L[i] = true from beq_iff_eq.2 h1)] at ih
   exact evPos h1 (evPos (by omega) ih)
  ·rw [if_neg (show ¬ evB L[i] = true from fun z => h1 (beq_iff_eq.1 z)), List.append_nil] at ih
   exact evNeg h1 ih
 ·refine evSucc ?_
  simp only [impl_TalliesOf.l0]
  refine evNeg (by omega) ?_
  rw [List.take_length]
  exact evBindS (sort_f _ (by omega)) fin
def mkdE (k : Int) : S131 := ⟨k, k + 1, ⟨k + 2, k + 3, k + 4, k + 5⟩⟩
def markE (l : List S131) (k : Int) : List S131 := (List.range l.length).map (fun (j : Nat) => mkdE (k + 6 * (j : Int)))
theorem rd_setE (l : List S131) (i : Nat) (x : S131) (hi : i < l.length) : rd_T131 (l.set i x) (i : Int) = x := by
 simp [rd_T131, hi]
theorem setsetE (l : List S131) (i : Nat) (x y : S131) : (l.set i x).set i y = l.set i y := by simp
theorem ev_markEntryS (l : List S131) (k0 : Int) (h0 : 0 ≤ k0) (h1 : k0 ≤ 1000000000) (hl : l.length ≤ 1048576) : Ev (fun k => laws_markEntryS.f k l k0) (k0 + 6 * (l.length : Int), markE l k0) := by
 have key : ∀ d i (cur : List S131), i + d = l.length → cur = (List.range i).map (fun (j : Nat) => mkdE (k0 + 6 * (j : Int))) ++ l.drop i → Ev (fun k => laws_markEntryS.l0 k cur (k0 + 6 * (i : Int)) (i : Int)) (k0 + 6 * (l.length : Int), markE l k0) := by
  intro d
  induction d with
  | zero =>
   intro i cur hi hc
   have hcl : cur.length = l.length := by rw [hc]; simp; omega
   refine evSucc ?_
   simp only [laws_markEntryS.l0]
   refine evNeg (by omega) (evEq (Ev.now _) ?_)
   rw [hc, List.drop_of_length_le (by omega), List.append_nil, show i = l.length by omega]
   rfl
  | succ d ih =>
   intro i cur hi hc
   have hcl : cur.length = l.length := by rw [hc]; simp; omega
   refine evSucc ?_
   simp only [laws_markEntryS.l0]
   refine evPos (by omega) (evPos (by omega) ?_)
   simp only [Option.bind_some, Int.toNat_natCast]
   rw [w64 (x := k0 + 6 * (i : Int) + 1) (by omega) (by omega), w64 (x := k0 + 6 * (i : Int) + 1 + 1) (by omega) (by omega), w64 (x := k0 + 6 * (i : Int) + 1 + 1 + 1) (by omega) (by omega), w64 (x := k0 + 6 * (i : Int) + 1 + 1 + 1 + 1) (by omega) (by omega), w64 (x := k0 + 6 * (i : Int) + 1 + 1 + 1 + 1 + 1) (by omega) (by omega), w64 (x := k0 + 6 * (i : Int) + 1 + 1 + 1 + 1 + 1 + 1) (by omega) (by omega), w64 (x := (i : Int) + 1) (by omega) (by omega)]
   have hi' : i < cur.length := by omega
   simp only [rd_setE _ _ _ hi', setsetE, rd_setE _ _ _ (show i < (cur.set i _).length by simpa using hi')]
   rw [ci, show k0 + 6 * (i : Int) + 1 + 1 + 1 + 1 + 1 + 1 = k0 + 6 * ((i + 1 : Nat) : Int) by omega]
   refine ih (i + 1) _ (by omega) ?_
   have hlt : i < l.length := by omega
   have hrl : ((List.range i).map (fun (j : Nat) => mkdE (k0 + 6 * (j : Int)))).length = i := by simp
   rw [hc, List.set_append_right _ _ (by rw [hrl]; omega), hrl, Nat.sub_self, List.drop_eq_getElem_cons hlt, List.set_cons_zero, List.range_succ, List.map_append, List.append_assoc]
   congr 1
   simp [mkdE]
   omega
 have := key l.length 0 l (by omega) (by simp)
 rw [show k0 + 6 * ((0 : Nat) : Int) = k0 by omega] at this
 exact this
theorem ev_eqTallyS (l : List S65) (hl : l.length ≤ 1048576) : Ev (fun k => laws_eqTallyS.f k l l) true := by
 have key := evUp (r := true) l.length (fun i k => laws_eqTallyS.l0 k l l (i : Int)) ?_ ?_
 ·refine Ev.congr (fun k => ?_) key
  unfold laws_eqTallyS.f
  rw [if_pos rfl]
  rfl
 ·intro i hi ih
  refine evSucc ?_
  simp only [laws_eqTallyS.l0]
  refine evPos (by omega) (evPos (by omega) (evPos (by omega) ?_))
  simp only [laws_eqTally.f, if_true, Option.bind_some]
  rw [w64 (by omega) (by omega), ci]
  exact ih
 ·refine evSucc ?_
  simp only [laws_eqTallyS.l0]
  exact evNeg (by omega) (Ev.now _)
def mkT (j : Nat) : S65 := ⟨1 + 2 * (j : Int), 2 + 2 * (j : Int)⟩
def mkTs (n : Nat) : List S65 := (List.range n).map mkT
theorem mkTs_len (n : Nat) : (mkTs n).length = n := by simp [mkTs]
theorem mkTs_get (n i : Nat) (h : i < (mkTs n).length) : (mkTs n)[i] = mkT i := by simp [mkTs]
theorem markSetT (l : List S65) (i : Nat) (hi : i < l.length) (v : S65) : (mkTs i ++ l.drop i).set i v = mkTs i ++ v :: l.drop (i + 1) := by
 rw [List.set_append_right _ _ (by rw [mkTs_len]; omega), mkTs_len, Nat.sub_self, List.drop_eq_getElem_cons hi, List.set_cons_zero]
theorem markRdT (l : List S65) (i : Nat) (v : S65) : rd_T65 (mkTs i ++ v :: l) (i : Int) = v := by
 simp [rd_T65, List.getElem?_append_right, mkTs_len]
theorem ev_markTallyS (l : List S65) (hl : l.length ≤ 1048576) : Ev (fun k => laws_markTallyS.f k l 1) (1 + 2 * (l.length : Int), mkTs l.length) := by
 have key := evUp (r := (1 + 2 * (l.length : Int), mkTs l.length)) l.length (fun i k => laws_markTallyS.l0 k (mkTs i ++ l.drop i) (1 + 2 * (i : Int)) (i : Int)) ?_ ?_
 ·exact key
 ·intro i hi ih
  refine evSucc ?_
  simp only [laws_markTallyS.l0]
  refine evPos (by simp [mkTs_len]; omega) (evPos (by omega) ?_)
  simp only [Option.bind_some, Int.toNat_natCast]
  rw [w64 (x := 1 + 2 * (i : Int) + 1) (by omega) (by omega), w64 (x := (i : Int) + 1) (by omega) (by omega), w64 (by omega) (by omega), ci i]
  rw [markSetT l i hi, markRdT]
  have e : (mkTs i ++ (⟨1 + 2 * (i : Int), (rd_T65 (mkTs i ++ l.drop i) i).f1⟩ : S65) :: l.drop (i + 1)).set i ⟨1 + 2 * (i : Int), 1 + 2 * (i : Int) + 1⟩ = mkTs (i + 1) ++ l.drop (i + 1) := by
   rw [List.set_append_right _ _ (by rw [mkTs_len]; omega), mkTs_len, Nat.sub_self, List.set_cons_zero]
   unfold mkTs
   rw [List.range_succ, List.map_append, List.append_assoc]
   simp [mkT]
   omega
  rw [e, show 1 + 2 * (i : Int) + 1 + 1 = 1 + 2 * ((i + 1 : Nat) : Int) by omega]
  exact ih
 ·refine evSucc ?_
  simp only [laws_markTallyS.l0]
  refine evNeg (by simp [mkTs_len]) ?_
  simp
  exact Ev.now _
theorem ev_heldTallyS (n : Nat) (hn : n ≤ 1048576) : Ev (fun k => laws_heldTallyS.f k (mkTs n) 1) (1 + 2 * (n : Int)) := by
 have key := evUp (r := 1 + 2 * (n : Int)) n (fun i k => laws_heldTallyS.l0 k (mkTs n) (1 + 2 * (i : Int)) (i : Int)) ?_ ?_
 ·exact key
 ·intro i hi ih
  have hi' : i < (mkTs n).length := by rw [mkTs_len]; exact hi
  refine evSucc ?_
  simp only [laws_heldTallyS.l0]
  refine evPos (by rw [mkTs_len]; omega) (evPos (by omega) ?_)
  rw [rdT _ i hi', mkTs_get n i hi', w64 (x := 1 + 2 * (i : Int) + 1) (by omega) (by omega), w64 (x := (i : Int) + 1) (by omega) (by omega), w64 (by omega) (by omega), ci i]
  refine evPos rfl (evPos (by simp [mkT]; omega) ?_)
  rw [show 1 + 2 * (i : Int) + 1 + 1 = 1 + 2 * ((i + 1 : Nat) : Int) by omega]
  exact ih
 ·refine evSucc ?_
  simp only [laws_heldTallyS.l0]
  exact evNeg (by rw [mkTs_len]; omega) (Ev.now _)
theorem FnExactTalliesOf : PureFnExactTalliesOf.Stated := by
 intro l ⟨_, hb⟩
 refine Ev.rounds ?_
 simp only [laws_FnExactTalliesOf.f]
 by_cases h2 : l.length ≤ 1048576
 ·rw [szEntryS_small l h2]
  simp only [Option.bind_some]
  have hm : (l.map cvEntry).length ≤ 1048576 := by simpa using h2
  have hp := tallies_len (l.map cvEntry)
  have hpl : (tallies (l.map cvEntry)).length ≤ 1048576 := by omega
  refine evNeg (by omega) (Ev.bind (ev_toEntryS l h2) (Ev.bind (ev_spec_TalliesOf _ hm) (Ev.bind (ev_toEntryS l h2) (Ev.bind (ev_impl_TalliesOf _ hm) (Ev.bind (ev_eqTallyS _ hpl) (evPos rfl (Ev.bind (ev_toEntryS l h2) (Ev.bind (ev_eqEntryS _ hm) (evPos rfl (Ev.bind (ev_markEntryS _ 1 (by omega) (by omega) hm) (evNeg ?_ (Ev.bind (ev_eqTallyS _ hpl) (evSucc ?_)))))))))))))
  ·show ¬ 1 + 6 * ((l.map cvEntry).length : Int) < 0
   omega
  simp only [laws_FnExactTalliesOf.j0]
  refine evNeg (by simp) (Ev.bind (ev_markTallyS _ hpl) (Ev.bind (ev_heldTallyS _ hpl) (evNeg (by omega) (evPos rfl ?_))))
  refine Ev.bind (ev_toEntryS l h2) (Ev.bind (ev_impl_TalliesOf _ hm) (Ev.bind (ev_eqTallyS _ hpl) (evPos rfl ?_)))
  exact Ev.bind (ev_heldTallyS _ hpl) (evNeg (by omega) (evPos rfl (Ev.now _)))
 ·rw [szEntryS_big l (by omega) hb]
  simp only [Option.bind_some]
  exact evPos (by omega) (Ev.now _)

end Go.Proofs.Ytmjlhikflhbdaaa.Pure

namespace Go.Proofs.Ytmjlhikflhbdaaa.fnExactTalliesOf
open Go.ChangeShapes Go.WideShapes Go.ChangeAt Go.RowKit Go.Proofs.Ytmjlhikflhbdaaa.PA Go.Proofs.Ytmjlhikflhbdaaa.PureFnExactTalliesOf Go.Proofs.YtmjlhikflhbdaaaW.PrintWords
open Go.ChangeMaps (open_string shut_string)
set_option linter.unusedVariables false
set_option linter.unusedSimpArgs false
theorem own : ownKnob Try.prog.godebug = none := by kernel_rfl
theorem laidOut : laidOutB Try.prog = true := by kernel_rfl
theorem op133 : Op.Opens Try.prog k133 133 ok133 := Op.opStruct Try.underlying133 (by kernel_rfl) (Op.fieldsCons (Op.opInt Try.underlying3 (by kernel_rfl)) rfl (Op.fieldsCons (Op.opInt Try.underlying3 (by kernel_rfl)) rfl (Op.fieldsCons (Op.opInt Try.underlying3 (by kernel_rfl)) rfl (Op.fieldsOne (Op.opInt Try.underlying3 (by kernel_rfl)) rfl)))) (fun a => ⟨a.1, a.2.1, a.2.2.1, a.2.2.2⟩) (fun a => rfl) (fun a h => h)
theorem op135 : Op.Opens Try.prog k135 135 ok135 := Op.opStruct Try.underlying135 (by kernel_rfl) (Op.fieldsCons (Op.opInt Try.underlying3 (by kernel_rfl)) rfl (Op.fieldsCons (Op.opInt Try.underlying3 (by kernel_rfl)) rfl (Op.fieldsOne op133 rfl))) (fun a => ⟨a.1, a.2.1, a.2.2⟩) (fun a => rfl) (fun a h => h)
set_option maxRecDepth 100000 in
theorem lifted (os : Os) (started : os.Started) (H : Type) (enc : TypeId × Value → H) :
 ReturnsInHanded {} Try.checked os 9 .any (Rows.fnExactTalliesOfSpec.pre6 enc Try.prog Try.f9 Rows.fnExactTalliesOfRow.domain false) (Rows.fnExactTalliesOfSpec.post enc Try.prog Try.f9 false true false false) := by
 refine returnsInHanded_of_change_sized (C := Try.checked) own started (by kernel_rfl) Try.func9
  (ChangeSpec.witness6 (enc := enc) (C := Try.checked) false ⟨#[], #[.slice none 0 0], []⟩ 8 (by kernel_rfl) (by kernel_rfl) (by kernel_rfl) (by kernel_rfl)) ?_
 intro W base args ds gs before hval0 hW hcnd hsz0 _
 have hval : ∀ (j : Nat) t v, Try.f9.params[j]? = some t → args[j]? = some v → Value.okWide Try.prog W .any base t v := hval0
 have hW' := hW
 obtain ⟨p, q, hA0, hV, rfl, hfz, hnd⟩ := hW
 have hA : DataW.TrodAll enc Try.prog W 0 (fun _ => true) true Try.f9.params.toList args.toList ds p := hA0
 rw [Try.params9] at hA hval
 obtain ⟨v0, vs0, d0, ds0, p0, q0, hargs, rfl, rfl, h0, r0⟩ := trodAll_cons hA
 obtain ⟨rfl, rfl, rfl⟩ := trodAll_nil r0
 obtain rfl : args = #[v0] := by cases args; simp_all
 obtain ⟨rfl, rfl⟩ := trodVars_none hV
 have k0 := h0
 have lt0 : ∀ x ∈ p0, x.block < W.heap.size := by obtain ⟨m, hm⟩ := k0; exact DataW.trod_lt m _ _ _ hm
 obtain ⟨m0, hm0⟩ := h0
 obtain ⟨A0, n0, c0, rfl⟩ := okWide_slice Try.underlying47 (hval 0 47 v0 rfl rfl)
 obtain ⟨x0, ⟨A0', c0', hs0, hc0, hr0⟩, hG0⟩ := (Op.opSlice Try.underlying47 (by kernel_rfl) 135 op135).op hm0
 obtain ⟨rfl, rfl, rfl⟩ : A0 = A0' ∧ n0 = x0.length ∧ c0 = c0' := by simpa [Value.cells] using hs0
 obtain ⟨k, h⟩ := Pure.FnExactTalliesOf x0 hG0
 refine (laws_FnExactTalliesOf.calls k A0 c0 x0 true W hr0 hc0 rfl h).mono fun e W' ⟨he, bel⟩ => ?_
 subst he
 exact ⟨_, rfl, _, _, _, [], _, [], hW', trodAll_mk1 (shut_bool Try.underlying4 _), (trodAll_cons_mk (Below.trod laidOut (by kernel_rfl) (of_decide_eq_true (by kernel_rfl)) k0 bel lt0) trodAll_mk0), rfl, bel.frame _, fun h => by cases h⟩
theorem over : Rows.fnExactTalliesOfRow.holds Try.pinned (OpenSpec.ofChange Rows.fnExactTalliesOfSpec) :=
 OpenClaim.holds_of_wide 9 Try.f9 rfl rfl rfl rfl rfl rfl rfl ⟨rfl, rfl, rfl, rfl, rfl⟩ rfl rfl rfl rfl rfl (by kernel_rfl) Try.func9 (by kernel_rfl)
  (of_decide_eq_true (by kernel_rfl)) (by unfold Func.isWrapper; first | (rw [if_pos (by decide +kernel)]; kernel_rfl) | (rw [if_neg (by decide +kernel)]; exact ⟨rfl, rfl⟩))
  (fun os started H enc _ => lifted os started H enc)
theorem proved : Rows.FnExactTalliesOfSaid := over
#print axioms proved
end Go.Proofs.Ytmjlhikflhbdaaa.fnExactTalliesOf
namespace Go.Proofs.Ytmjlhikflhbdaaa
/-- The row, under a short name, for the claim. -/
theorem fnExactTalliesOf_holds : Rows.FnExactTalliesOfSaid := fnExactTalliesOf.proved
end Go.Proofs.Ytmjlhikflhbdaaa

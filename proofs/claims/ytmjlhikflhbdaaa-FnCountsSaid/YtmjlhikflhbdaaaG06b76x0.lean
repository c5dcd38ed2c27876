/- Contracts of functions of the program and of the reference, and plain lemmas on what they compute. No condition. -/
import Derived.Test.YtmjlhikflhbdaaaGabbbex0
import Derived.Test.YtmjlhikflhbdaaaShortV
namespace Go.Proofs.Ytmjlhikflhbdaaa.PA
open Go.RowKit Go.Proofs.Ytmjlhikflhbdaaa.Short Go.Proofs.YtmjlhikflhbdaaaW.PrintWords Go.Proofs.YtmjlhikflhbdaaaW.PrintLast Go.Proofs.YtmjlhikflhbdaaaW.PrintMore
attribute [local go_sem] max2_int min2_int max_two min_two max_three min_three max_four min_four   -- for this text's walks alone
set_option linter.unusedVariables false
set_option linter.unusedSimpArgs false

/-! ### impl_TalliesOf: function 50 -/
mutual
def impl_TalliesOf.l0 : Nat → List Int → List (S131) → Int → Int → Option ((List (S65)))
 | 0, _, _, _, _ => none
 | k + 1, x3, x11, x12, x13 => if x13 < x12 then (if 0 ≤ x13 then (if x13 < (x11.length : Int) then (if ((rd_T131 x11 x13).f2.f0) = 1 then (if x3.length < 17592186044416 then (impl_TalliesOf.l0 k (x3 ++ [(rd_T131 x11 x13).f2.f1]) x11 x12 (wrap64 (x13 + 1))) else (none)) else (impl_TalliesOf.l0 k x3 x11 x12 (wrap64 (x13 + 1)))) else (none)) else (none)) else ((slices_Sort_int_int.f x3).bind fun t974 => (impl_TalliesOf.l1 k (([] : List (S65))) t974 (x3.length : Int) 0))
def impl_TalliesOf.l1 : Nat → List (S65) → List Int → Int → Int → Option ((List (S65)))
 | 0, _, _, _, _ => none
 | k + 1, x6, x31, x32, x33 => if x33 < x32 then (if 0 ≤ x33 then (if x33 < (x31.length : Int) then (if (x6.length : Int) > 0 then (if 0 ≤ (wrap64 ((x6.length : Int) - 1)) then (if (wrap64 ((x6.length : Int) - 1)) < (x6.length : Int) then (if ((rd_T65 x6 (wrap64 ((x6.length : Int) - 1))).f0) = (rd x31 x33) then (impl_TalliesOf.l1 k (x6.set ((wrap64 ((x6.length : Int) - 1)) : Int).toNat (⟨(rd_T65 x6 (wrap64 ((x6.length : Int) - 1))).f0, wrap64 (((rd_T65 x6 (wrap64 ((x6.length : Int) - 1))).f1) + 1)⟩ : S65)) x31 x32 (wrap64 (x33 + 1))) else (if x6.length < 8796093022208 then (impl_TalliesOf.l1 k (x6 ++ [(⟨rd x31 x33, 1⟩ : S65)]) x31 x32 (wrap64 (x33 + 1))) else (none))) else (none)) else (none)) else (if x6.length < 8796093022208 then (impl_TalliesOf.l1 k (x6 ++ [(⟨rd x31 x33, 1⟩ : S65)]) x31 x32 (wrap64 (x33 + 1))) else (none))) else (none)) else (none)) else (some x6)
end
def impl_TalliesOf.f (k : Nat) (l0 : List (S131)) : Option ((List (S65))) := impl_TalliesOf.l0 k (([] : List Int)) l0 (l0.length : Int) 0
theorem impl_TalliesOf.mono_l : ∀ k, (∀ y0 y1 y2 y3, LeO (impl_TalliesOf.l0 k y0 y1 y2 y3) (impl_TalliesOf.l0 (k + 1) y0 y1 y2 y3)) ∧ (∀ y0 y1 y2 y3, LeO (impl_TalliesOf.l1 k y0 y1 y2 y3) (impl_TalliesOf.l1 (k + 1) y0 y1 y2 y3))
 | 0 => ⟨fun _ _ _ _ r h => by simp [impl_TalliesOf.l0] at h, fun _ _ _ _ r h => by simp [impl_TalliesOf.l1] at h⟩
 | k + 1 => by
  obtain ⟨ih0, ih1⟩ := impl_TalliesOf.mono_l k
  refine ⟨?_, ?_⟩
  ·intro y0 y1 y2 y3
   unfold impl_TalliesOf.l0
   repeat' first
   | (with_reducible exact ih0 _ _ _ _)
   | (with_reducible exact ih1 _ _ _ _)
   | (with_reducible exact LeO.refl _)
   | (with_reducible exact LeO.none _)
   | (with_reducible refine LeO.ite ?_ ?_)
   | (with_reducible refine LeO.bind ?_ (fun _ => ?_))
   | exact ih0 _ _ _ _
   | exact ih1 _ _ _ _
   | exact LeO.none _
   | refine LeO.ite ?_ ?_
   | refine LeO.bind ?_ (fun _ => ?_)
  ·intro y0 y1 y2 y3
   unfold impl_TalliesOf.l1
   repeat' first
   | (with_reducible exact ih0 _ _ _ _)
   | (with_reducible exact ih1 _ _ _ _)
   | (with_reducible exact LeO.refl _)
   | (with_reducible exact LeO.none _)
   | (with_reducible refine LeO.ite ?_ ?_)
   | (with_reducible refine LeO.bind ?_ (fun _ => ?_))
   | exact ih0 _ _ _ _
   | exact ih1 _ _ _ _
   | exact LeO.none _
   | refine LeO.ite ?_ ?_
   | refine LeO.bind ?_ (fun _ => ?_)
theorem impl_TalliesOf.mono : ∀ a0 k, LeO (impl_TalliesOf.f k a0) (impl_TalliesOf.f (k + 1) a0) := by
 intro a0 k
 obtain ⟨ih0, ih1⟩ := impl_TalliesOf.mono_l k
 unfold impl_TalliesOf.f
 repeat' first
  | (with_reducible exact ih0 _ _ _ _)
  | (with_reducible exact ih1 _ _ _ _)
  | (with_reducible exact LeO.refl _)
  | (with_reducible exact LeO.none _)
  | (with_reducible refine LeO.ite ?_ ?_)
  | (with_reducible refine LeO.bind ?_ (fun _ => ?_))
  | exact ih0 _ _ _ _
  | exact ih1 _ _ _ _
  | exact LeO.none _
  | refine LeO.ite ?_ ?_
  | refine LeO.bind ?_ (fun _ => ?_)
set_option maxHeartbeats 8000000 in
set_option maxRecDepth 100000 in
theorem impl_TalliesOf.calls (k : Nat) (A0 : Option Addr) (c0 : Nat) (l0 : List (S131)) (r : List (S65)) (w : World) (hr0 : Kd.C k131 w A0 l0.length l0) (hc0 : l0.length ≤ c0) (h : impl_TalliesOf.f k l0 = some r) :
 Calls Try.prog 50 #[.slice A0 l0.length c0] w fun e w' => ∃ v0_ : Value, e = .returned (v0_) ∧ Kd.R k65 65 w' w.heap.size (fun _ => True) v0_ r ∧ Below w.heap.size w w' := by
 have hu131 := Try.underlying131
 have hu65 := Try.underlying65
 have HR0 := Aside0.mk hr0
 have HC0 := Aside0.mk hc0
 clear hr0 hc0
 have HB := Aside0.mk (Below.refl w.heap.size w)
 have H : (impl_TalliesOf.l0 k (([] : List Int)) l0 (l0.length : Int) 0) = some r := h
 clear h
 obtain ⟨y966, hy966⟩ : ∃ y_ : List Int, y_ = (([] : List Int)) := ⟨_, rfl⟩
 replace H : (impl_TalliesOf.l0 k y966 l0 (l0.length : Int) 0) = some r := by first | (rw [hy966]; with_reducible exact H) | (have H2_ := (Option.bind_some _ _).symm.trans H; rw [hy966]; with_reducible exact H2_) | (have H2_ := (Option.bind_some _ _).symm.trans H; with_reducible exact H2_) | with_reducible exact H | (rw [hy966]; exact H) | exact H
 have Ny966 := Aside0.mk hy966
 clear hy966
 have H' := Aside0.mk H
 clear H
 go_enter Try.func50, Try.ntmps50
 go_wp2_with (first | ((with_reducible refine gate_dst (N := 10) rfl ?_); refine Kd.R_lit (Kd.int .i64) _ 3 ?hg (N := 10) ?hd (xs := ([] : List Int)) (inner := []) (ok := fun _ => True) (okp := fun _ => True) ?hr ?hp (fun _ hk => hk) trivial (Below.refl _ _) (Nat.le_refl _) (by simp) ?_; (case hd => rfl); (case hg => rfl); (case hr => first | (go_simp; done) | (go_simp; rfl)); (case hp => exact (Reps.none _ _)); intro v967 w2 ho3 hb hg_ hnew_; clear hg_ hnew_; (first | rw [← Ny966.out] at ho3 | (simp only [Int.reduceToNat] at ho3; rw [← Ny966.out] at ho3)); have n0_ := Aside0.mk (Kd.R_lower ho3 (below_size bl_)); have n1_ := Aside0.mk (below_step bl_ hb); clear HB; have HO968 := n0_; have HB := n1_; clear n0_ n1_; clear hb ho3))
 go_loopg [3, 13] k (fun kq v3 v13 w' => ∃ (x3_1 : List Int) (x13_1 : Int), v13 = .int .i64 x13_1 ∧ Aside0 (impl_TalliesOf.l0 kq x3_1 l0 (l0.length : Int) x13_1 = some r) ∧ Aside0 (kq ≤ k) ∧ Aside0 (Kd.R (Kd.int .i64) 3 w' w.heap.size (fun _ => True) v3 x3_1) ∧ Aside0 (Below w.heap.size w w'))
 case atStart => exact ⟨(y966), (0), (by first | rfl | (simp; done) | (simp [*]; done)), H', ⟨Nat.le_refl _⟩, ⟨ra_ HO968.out⟩, ⟨bl_⟩⟩
 case round =>
  clear H'
  try clear p2
  obtain ⟨x3_1, x13_1, rfl, HA, HK1, HO_3, HB⟩ := hrel
  cases gk with
  | zero => exact absurd HA.out (by simp [impl_TalliesOf.l0])
  | succ k1 =>
   have H := HA.out
   clear HA
   simp only [impl_TalliesOf.l0] at H
   by_cases c4 : x13_1 < (l0.length : Int)
   ·rw [if_pos c4] at H
    have c4b0 : decide (x13_1 < (l0.length : Int)) = true := decide_eq_true c4
    clear c4
    by_cases c5 : 0 ≤ x13_1
    ·rw [if_pos c5] at H
     have c5b0 : decide (0 ≤ x13_1) = true := decide_eq_true c5
     clear c5
     by_cases c6 : x13_1 < (l0.length : Int)
     ·rw [if_pos c6] at H
      have c6b0 : decide (x13_1 < (l0.length : Int)) = true := decide_eq_true c6
      clear c6
      by_cases c7 : ((rd_T131 l0 x13_1).f2.f0) = 1
      ·rw [if_pos c7] at H
       have c7b0 : (((rd_T131 l0 x13_1).f2.f0) == 1) = true := beq_iff_eq.mpr c7
       have c7b1 : (((rd_T131 l0 x13_1).f2.f0) != 1) = false := bne_eq_false_iff_eq.mpr c7
       clear c7
       by_cases c8 : x3_1.length < 17592186044416
       ·rw [if_pos c8] at H
        have LMc8 := Aside0.mk c8
        clear c8
        obtain ⟨y971, hy971⟩ : ∃ y_ : List Int, y_ = (x3_1 ++ [(rd_T131 l0 x13_1).f2.f1]) := ⟨_, rfl⟩
        replace H : (impl_TalliesOf.l0 k1 y971 l0 (l0.length : Int) (wrap64 (x13_1 + 1))) = some r := by first | (rw [hy971]; with_reducible exact H) | (have H2_ := (Option.bind_some _ _).symm.trans H; rw [hy971]; with_reducible exact H2_) | (have H2_ := (Option.bind_some _ _).symm.trans H; with_reducible exact H2_) | with_reducible exact H | (rw [hy971]; exact H) | exact H
        have Ny971 := Aside0.mk hy971
        clear hy971
        have H' := Aside0.mk H
        clear H
        have p969 : 0 ≤ (x13_1 : Int) := of_decide_eq_true as_
        have q969 : x13_1 < (l0.length : Int) := of_decide_eq_true as_
        obtain ⟨ad969, e969, hx969_0, hx969_1, hx969_2, hx969_3, hx969_4, hx969_5⟩ := at_T131 HR0.out x13_1 p969 q969
        cases e969
        replace hx969_0 := (HB.out.cell (World.block_lt_of_cell? w _ hx969_0)).trans hx969_0
        replace hx969_1 := (HB.out.cell (World.block_lt_of_cell? w _ hx969_1)).trans hx969_1
        replace hx969_2 := (HB.out.cell (World.block_lt_of_cell? w _ hx969_2)).trans hx969_2
        replace hx969_3 := (HB.out.cell (World.block_lt_of_cell? w _ hx969_3)).trans hx969_3
        replace hx969_4 := (HB.out.cell (World.block_lt_of_cell? w _ hx969_4)).trans hx969_4
        replace hx969_5 := (HB.out.cell (World.block_lt_of_cell? w _ hx969_5)).trans hx969_5
        replace p969 := eq_true p969
        replace q969 := eq_true q969
        go_wp2_with (first | ((with_reducible refine gate_dst (N := 5) rfl ?_); refine box_event ?hg (N := 5) ?hd (cs := #[.int .i64 0, .int .i64 0, .int .i64 0, .int .i64 0, .int .i64 0, .int .i64 0]) (t := 131) ?hr ?_; (case hd => rfl); (case hg => rfl); (case hr => first | (go_simp; done) | (go_simp; rfl)); intro gb970 hg w9 hbox hb; have n0_ := Aside0.mk (Kd.R_below (ra_ HO_3.out) hb); have n1_ := Aside0.mk (below_step bl_ hb); have n2_ := Aside0.mk (hbox); have n3_ := Aside0.mk ((hz_ : w.heap.size ≤ gb970)); have n4_ := Aside0.mk ((hz_ : w.heap.size ≤ gb970)); clear HO_3; clear HB; have HO_3 := n0_; have HB := n1_; have BK970 := n2_; have GW970 := n3_; have GE970 := n4_; clear n0_ n1_ n2_ n3_ n4_; clear hb hbox hg; have hcz10_0 : w9.cell? ⟨gb970, 0, none⟩ = some (.int .i64 0) := (blk_cell BK970.out 0).trans rfl; have hcz10_1 : w9.cell? ⟨gb970, 1, none⟩ = some (.int .i64 0) := (blk_cell BK970.out 1).trans rfl; have hcz10_2 : w9.cell? ⟨gb970, 2, none⟩ = some (.int .i64 0) := (blk_cell BK970.out 2).trans rfl; have hcz10_3 : w9.cell? ⟨gb970, 3, none⟩ = some (.int .i64 0) := (blk_cell BK970.out 3).trans rfl; have hcz10_4 : w9.cell? ⟨gb970, 4, none⟩ = some (.int .i64 0) := (blk_cell BK970.out 4).trans rfl; have hcz10_5 : w9.cell? ⟨gb970, 5, none⟩ = some (.int .i64 0) := (blk_cell BK970.out 5).trans rfl; have hfz10_0 := blk_frozen BK970.out 0; have hfz10_1 := blk_frozen BK970.out 1; have hfz10_2 := blk_frozen BK970.out 2; have hfz10_3 := blk_frozen BK970.out 3; have hfz10_4 := blk_frozen BK970.out 4; have hfz10_5 := blk_frozen BK970.out 5) | ((with_reducible refine gate_builtin (b := .append) (xs := #[.tmp 21, .tmp 25]) rfl ?_); at_builtin; refine Kd.R_append (Kd.int .i64) (w0 := w) w.heap.size rfl (.tmp 21) (.tmp 25) 54 3 (.int .i64 0) 8 rfl Try.underlying54 info3 rfl (by decide) (by omega) u3 x3_1 ((rd_T131 l0 x13_1).f2.f1) [.int .i64 ((rd_T131 l0 x13_1).f2.f1)] (fun _ => True) (fun _ => False) rfl (by first | (go_simp; done) | (go_simp; rfl)) ?aP (fun _ hk => hk.elim) ?aF ?aO ?aB ?aS ?aL ?_; (case aP => exact rfl); (case aB => exact bl_); (case aF => exact (fun _ _ => trivial)); (case aO => exact (by (with_reducible repeat (first | apply Kd.R_alloc | apply Kd.R_drewN | apply Kd.R_drew)); exact Kd.R_mono (Kd.R_far (p := ⟨gb970, 5, none⟩) (Kd.R_far (p := ⟨gb970, 4, none⟩) (Kd.R_far (p := ⟨gb970, 3, none⟩) (Kd.R_far (p := ⟨gb970, 2, none⟩) (Kd.R_far (p := ⟨gb970, 1, none⟩) (Kd.R_far (p := ⟨gb970, 0, none⟩) (Kd.R_types HO_3.out BK970.out (by decide)) (fun _ hk => hk.2) (.int .i64 ((rd_T131 l0 x13_1).f0))) (fun _ hk => hk.2) (.int .i64 ((rd_T131 l0 x13_1).f1))) (fun _ hk => hk.2) (.int .i64 ((rd_T131 l0 x13_1).f2.f0))) (fun _ hk => hk.2) (.int .i64 ((rd_T131 l0 x13_1).f2.f1))) (fun _ hk => hk.2) (.int .i64 ((rd_T131 l0 x13_1).f2.f2))) (fun _ hk => hk.2) (.int .i64 ((rd_T131 l0 x13_1).f2.f3))) (fun _ hk => trivial))); (case aS => exact (below_size bl_)); (case aL => have := LMc8.out; omega); intro v972 w11 ho hb hg hat; rw [← Ny971.out] at ho; have n0_ := Aside0.mk (blk_grown (g := gb970) (o := .cells #[.int .i64 ((rd_T131 l0 x13_1).f0), .int .i64 ((rd_T131 l0 x13_1).f1), .int .i64 ((rd_T131 l0 x13_1).f2.f0), .int .i64 ((rd_T131 l0 x13_1).f2.f1), .int .i64 ((rd_T131 l0 x13_1).f2.f2), .int .i64 ((rd_T131 l0 x13_1).f2.f3)] 131 (0, 0)) (by (with_reducible repeat (first | refine blk_drewN ?_ _ | refine blk_drew ?_ | refine blk_alloc ?_ _)); refine blk_put (cs := #[.int .i64 ((rd_T131 l0 x13_1).f0), .int .i64 ((rd_T131 l0 x13_1).f1), .int .i64 ((rd_T131 l0 x13_1).f2.f0), .int .i64 ((rd_T131 l0 x13_1).f2.f1), .int .i64 ((rd_T131 l0 x13_1).f2.f2), .int .i64 0]) ?_ 5 _ rfl; (with_reducible repeat (first | refine blk_drewN ?_ _ | refine blk_drew ?_ | refine blk_alloc ?_ _)); refine blk_put (cs := #[.int .i64 ((rd_T131 l0 x13_1).f0), .int .i64 ((rd_T131 l0 x13_1).f1), .int .i64 ((rd_T131 l0 x13_1).f2.f0), .int .i64 ((rd_T131 l0 x13_1).f2.f1), .int .i64 0, .int .i64 0]) ?_ 4 _ rfl; (with_reducible repeat (first | refine blk_drewN ?_ _ | refine blk_drew ?_ | refine blk_alloc ?_ _)); refine blk_put (cs := #[.int .i64 ((rd_T131 l0 x13_1).f0), .int .i64 ((rd_T131 l0 x13_1).f1), .int .i64 ((rd_T131 l0 x13_1).f2.f0), .int .i64 0, .int .i64 0, .int .i64 0]) ?_ 3 _ rfl; (with_reducible repeat (first | refine blk_drewN ?_ _ | refine blk_drew ?_ | refine blk_alloc ?_ _)); refine blk_put (cs := #[.int .i64 ((rd_T131 l0 x13_1).f0), .int .i64 ((rd_T131 l0 x13_1).f1), .int .i64 0, .int .i64 0, .int .i64 0, .int .i64 0]) ?_ 2 _ rfl; (with_reducible repeat (first | refine blk_drewN ?_ _ | refine blk_drew ?_ | refine blk_alloc ?_ _)); refine blk_put (cs := #[.int .i64 ((rd_T131 l0 x13_1).f0), .int .i64 0, .int .i64 0, .int .i64 0, .int .i64 0, .int .i64 0]) ?_ 1 _ rfl; (with_reducible repeat (first | refine blk_drewN ?_ _ | refine blk_drew ?_ | refine blk_alloc ?_ _)); refine blk_put (cs := #[.int .i64 0, .int .i64 0, .int .i64 0, .int .i64 0, .int .i64 0, .int .i64 0]) ?_ 0 _ rfl; (with_reducible repeat (first | refine blk_drewN ?_ _ | refine blk_drew ?_ | refine blk_alloc ?_ _)); exact BK970.out) hg (Kd.R_ne HO_3.out BK970.out (by decide))); have n1_ := Aside0.mk (hb); have n2_ := Aside0.mk (ho); clear BK970; clear HB; clear HO_3; have BK970 := n0_; have HB := n1_; have HO973 := n2_; clear n0_ n1_ n2_; clear ho hb hg hat))
        go_roundg k1
        case measure => have := HK1.out; omega
        case rel => exact ⟨(y971), (wrap64 (x13_1 + 1)), (by first | rfl | (simp; done) | (simp [*]; done)), H', ⟨by have := HK1.out; omega⟩, ⟨ra_ HO973.out⟩, ⟨bl_⟩⟩
       ·rw [if_neg c8] at H
        exact absurd H (by simp)
      ·rw [if_neg c7] at H
       have c7b0 : (((rd_T131 l0 x13_1).f2.f0) == 1) = false := beq_eq_false_iff_ne.mpr c7
       have c7b1 : (((rd_T131 l0 x13_1).f2.f0) != 1) = true := bne_iff_ne.mpr c7
       have H' := Aside0.mk H
       clear H
       have p969 : 0 ≤ (x13_1 : Int) := of_decide_eq_true as_
       have q969 : x13_1 < (l0.length : Int) := of_decide_eq_true as_
       obtain ⟨ad969, e969, hx969_0, hx969_1, hx969_2, hx969_3, hx969_4, hx969_5⟩ := at_T131 HR0.out x13_1 p969 q969
       cases e969
       replace hx969_0 := (HB.out.cell (World.block_lt_of_cell? w _ hx969_0)).trans hx969_0
       replace hx969_1 := (HB.out.cell (World.block_lt_of_cell? w _ hx969_1)).trans hx969_1
       replace hx969_2 := (HB.out.cell (World.block_lt_of_cell? w _ hx969_2)).trans hx969_2
       replace hx969_3 := (HB.out.cell (World.block_lt_of_cell? w _ hx969_3)).trans hx969_3
       replace hx969_4 := (HB.out.cell (World.block_lt_of_cell? w _ hx969_4)).trans hx969_4
       replace hx969_5 := (HB.out.cell (World.block_lt_of_cell? w _ hx969_5)).trans hx969_5
       replace p969 := eq_true p969
       replace q969 := eq_true q969
       go_wp2_with (first | ((with_reducible refine gate_dst (N := 5) rfl ?_); refine box_event ?hg (N := 5) ?hd (cs := #[.int .i64 0, .int .i64 0, .int .i64 0, .int .i64 0, .int .i64 0, .int .i64 0]) (t := 131) ?hr ?_; (case hd => rfl); (case hg => rfl); (case hr => first | (go_simp; done) | (go_simp; rfl)); intro gb970 hg w12 hbox hb; have n0_ := Aside0.mk (Kd.R_below (ra_ HO_3.out) hb); have n1_ := Aside0.mk (below_step bl_ hb); have n2_ := Aside0.mk (hbox); have n3_ := Aside0.mk ((hz_ : w.heap.size ≤ gb970)); have n4_ := Aside0.mk ((hz_ : w.heap.size ≤ gb970)); clear HO_3; clear HB; have HO_3 := n0_; have HB := n1_; have BK970 := n2_; have GW970 := n3_; have GE970 := n4_; clear n0_ n1_ n2_ n3_ n4_; clear hb hbox hg; have hcz13_0 : w12.cell? ⟨gb970, 0, none⟩ = some (.int .i64 0) := (blk_cell BK970.out 0).trans rfl; have hcz13_1 : w12.cell? ⟨gb970, 1, none⟩ = some (.int .i64 0) := (blk_cell BK970.out 1).trans rfl; have hcz13_2 : w12.cell? ⟨gb970, 2, none⟩ = some (.int .i64 0) := (blk_cell BK970.out 2).trans rfl; have hcz13_3 : w12.cell? ⟨gb970, 3, none⟩ = some (.int .i64 0) := (blk_cell BK970.out 3).trans rfl; have hcz13_4 : w12.cell? ⟨gb970, 4, none⟩ = some (.int .i64 0) := (blk_cell BK970.out 4).trans rfl; have hcz13_5 : w12.cell? ⟨gb970, 5, none⟩ = some (.int .i64 0) := (blk_cell BK970.out 5).trans rfl; have hfz13_0 := blk_frozen BK970.out 0; have hfz13_1 := blk_frozen BK970.out 1; have hfz13_2 := blk_frozen BK970.out 2; have hfz13_3 := blk_frozen BK970.out 3; have hfz13_4 := blk_frozen BK970.out 4; have hfz13_5 := blk_frozen BK970.out 5))
       go_roundg k1
       case measure => have := HK1.out; omega
       case rel => exact ⟨(x3_1), (wrap64 (x13_1 + 1)), (by first | rfl | (simp; done) | (simp [*]; done)), H', ⟨by have := HK1.out; omega⟩, ⟨by (with_reducible repeat (first | apply Kd.R_alloc | apply Kd.R_drewN | apply Kd.R_drew)); exact Kd.R_mono (Kd.R_far (p := ⟨gb970, 5, none⟩) (Kd.R_far (p := ⟨gb970, 4, none⟩) (Kd.R_far (p := ⟨gb970, 3, none⟩) (Kd.R_far (p := ⟨gb970, 2, none⟩) (Kd.R_far (p := ⟨gb970, 1, none⟩) (Kd.R_far (p := ⟨gb970, 0, none⟩) (Kd.R_types HO_3.out BK970.out (by decide)) (fun _ hk => hk.2) (.int .i64 ((rd_T131 l0 x13_1).f0))) (fun _ hk => hk.2) (.int .i64 ((rd_T131 l0 x13_1).f1))) (fun _ hk => hk.2) (.int .i64 ((rd_T131 l0 x13_1).f2.f0))) (fun _ hk => hk.2) (.int .i64 ((rd_T131 l0 x13_1).f2.f1))) (fun _ hk => hk.2) (.int .i64 ((rd_T131 l0 x13_1).f2.f2))) (fun _ hk => hk.2) (.int .i64 ((rd_T131 l0 x13_1).f2.f3))) (fun _ hk => trivial)⟩, ⟨bl_⟩⟩
     ·rw [if_neg c6] at H
      exact absurd H (by simp)
    ·rw [if_neg c5] at H
     exact absurd H (by simp)
   ·rw [if_neg c4] at H
    have c4b0 : decide (x13_1 < (l0.length : Int)) = false := decide_eq_false c4
    clear c4
    (try simp only [hl31_2] at c4b0)
    replace H := Option.bind_eq_some_iff.mp H
    obtain ⟨t974, A140, H⟩ := H
    try dsimp only at H
    have A14 := Aside0.mk A140
    clear A140
    obtain ⟨y975, hy975⟩ : ∃ y_ : List (S65), y_ = (([] : List (S65))) := ⟨_, rfl⟩
    replace H : (impl_TalliesOf.l1 k1 y975 t974 (x3_1.length : Int) 0) = some r := by first | (rw [hy975]; with_reducible exact H) | (have H2_ := (Option.bind_some _ _).symm.trans H; rw [hy975]; with_reducible exact H2_) | (have H2_ := (Option.bind_some _ _).symm.trans H; with_reducible exact H2_) | with_reducible exact H | (rw [hy975]; exact H) | exact H
    have Ny975 := Aside0.mk hy975
    clear hy975
    have H' := Aside0.mk H
    clear H
    obtain ⟨Ao15, co15, eo15⟩ := Kd.R_slice HO_3.out
    subst eo15
    go_wp2_with (first | ((with_reducible refine gate_callee (f := 128) rfl ?_); refine goesL_ (some 29) rfl rfl Try.func128 (by kernel_rfl) rfl #[.slice Ao15 x3_1.length co15] rfl lm_ ?_; (with_reducible refine (slices_Sort_int_int.calls (fun k_ => some k_ = (.slice Ao15 x3_1.length co15 : Value).ownBlock) (.slice Ao15 x3_1.length co15) x3_1 t974 w _ ?side1 ?side2 A14.out).mono ?_); (case side1 => repeat (first | (with_reducible first | exact HB.out | apply below_alloc | apply pw_below_drewN | apply below_drew1) | exact HB.out)); (case side2 => exact Kd.R_tight rfl HO_3.out); rintro e w16 ⟨rfl, hy0, hb, hkp⟩; refine ⟨_, rfl, ?_⟩; have n0_ := Aside0.mk (Kd.R_reok rfl hy0 (fun k_ e_ => HO_3.out.1 k_ e_)); have n1_ := Aside0.mk (hb); clear HO_3; clear HB; have HO_3 := n0_; have HB := n1_; clear n0_ n1_; (try clear hb); (try clear hkp); (try clear hy0)) | ((with_reducible refine gate_dst (N := 30) rfl ?_); refine Kd.R_lit k65 _ 65 ?hg (N := 30) ?hd (xs := ([] : List (S65))) (inner := []) (ok := fun _ => True) (okp := fun _ => True) ?hr ?hp (fun _ hk => hk) trivial (Below.refl _ _) (Nat.le_refl _) (by simp) ?_; (case hd => rfl); (case hg => rfl); (case hr => first | (go_simp; done) | (go_simp; rfl)); (case hp => exact (Reps.none _ _)); intro v976 w17 ho18 hb hg_ hnew_; clear hg_ hnew_; (first | rw [← Ny975.out] at ho18 | (simp only [Int.reduceToNat] at ho18; rw [← Ny975.out] at ho18)); have n0_ := Aside0.mk (Kd.R_below (ra_ HO_3.out) hb); have n1_ := Aside0.mk (Kd.R_lower ho18 (below_size bl_)); have n2_ := Aside0.mk (below_step bl_ hb); clear HO_3; clear HB; have HO_3 := n0_; have HO977 := n1_; have HB := n2_; clear n0_ n1_ n2_; clear hb ho18))
    go_loopg [6, 33] k1 (fun kq v6 v33 w' => ∃ (x6_2 : List (S65)) (x33_2 : Int), v33 = .int .i64 x33_2 ∧ Aside0 (impl_TalliesOf.l1 kq x6_2 t974 (x3_1.length : Int) x33_2 = some r) ∧ Aside0 (kq ≤ k1) ∧ Aside0 (Kd.R k65 65 w' w.heap.size (fun _ => True) v6 x6_2) ∧ Aside0 (Kd.R (Kd.int .i64) 3 w' w.heap.size (fun _ => True) (.slice Ao15 x3_1.length co15) t974) ∧ Aside0 (Below w.heap.size w w'))
    case atStart => exact ⟨(y975), (0), (by first | rfl | (simp; done) | (simp [*]; done)), H', ⟨Nat.le_refl _⟩, ⟨ra_ HO977.out⟩, ⟨ra_ HO_3.out⟩, ⟨bl_⟩⟩
    case round =>
     clear H'
     try clear c1
     try clear p2
     try clear c4
     try clear c4b0
     try clear c5
     try clear c5b0
     try clear c6
     try clear c6b0
     try clear p6
     try clear c7
     try clear c7b0
     try clear c7b1
     try clear c8
     try clear p9
     try clear q9
     try clear hx9
     try clear c12
     try clear hcz10_0
     try clear hcz10_1
     try clear hcz10_2
     try clear hcz10_3
     try clear hcz10_4
     try clear hcz10_5
     try clear hcz13_0
     try clear hcz13_1
     try clear hcz13_2
     try clear hcz13_3
     try clear hcz13_4
     try clear hcz13_5
     try clear hfz10_0
     try clear hfz10_1
     try clear hfz10_2
     try clear hfz10_3
     try clear hfz10_4
     try clear hfz10_5
     try clear hfz13_0
     try clear hfz13_1
     try clear hfz13_2
     try clear hfz13_3
     try clear hfz13_4
     try clear hfz13_5
     try clear hx969_0
     try clear hx969_1
     try clear hx969_2
     try clear hx969_3
     try clear hx969_4
     try clear hx969_5
     try clear p2
     try clear p969
     try clear q969
     obtain ⟨x6_2, x33_2, rfl, HA, HK2, HO_6, HO_31, HB⟩ := hrel
     have hl31_2 := (Kd.R_reads' HO_31.out).1
     rw [hl31_2] at HO_31
     (try simp only [hl31_2])
     (try simp only [hl31_2] at HO_6)
     cases gk with
     | zero => exact absurd HA.out (by simp [impl_TalliesOf.l1])
     | succ k2 =>
      have H := HA.out
      clear HA
      simp only [impl_TalliesOf.l1] at H
      by_cases c19 : x33_2 < (x3_1.length : Int)
      ·rw [if_pos c19] at H
       have c19b0 : decide (x33_2 < (x3_1.length : Int)) = true := decide_eq_true c19
       clear c19
       by_cases c20 : 0 ≤ x33_2
       ·rw [if_pos c20] at H
        have c20b0 : decide (0 ≤ x33_2) = true := decide_eq_true c20
        clear c20
        by_cases c21 : x33_2 < (t974.length : Int)
        ·rw [if_pos c21] at H
         have c21b0 : decide (x33_2 < (t974.length : Int)) = true := decide_eq_true c21
         clear c21
         by_cases c22 : (x6_2.length : Int) > 0
         ·rw [if_pos c22] at H
          have c22b0 : decide (0 < (x6_2.length : Int)) = true := decide_eq_true c22
          have c22b1 : decide (0 < x6_2.length) = true := decide_eq_true (by omega)
          clear c22
          obtain ⟨ji23, hji23⟩ : ∃ j_ : Int, (wrap64 ((x6_2.length : Int) - 1)) = j_ := ⟨_, rfl⟩
          replace H : (if 0 ≤ (ji23) then (if (ji23) < (x6_2.length : Int) then (if ((rd_T65 x6_2 (ji23)).f0) = (rd t974 x33_2) then (impl_TalliesOf.l1 k2 (x6_2.set ((ji23) : Int).toNat (⟨(rd_T65 x6_2 (ji23)).f0, wrap64 (((rd_T65 x6_2 (ji23)).f1) + 1)⟩ : S65)) t974 (x3_1.length : Int) (wrap64 (x33_2 + 1))) else (if x6_2.length < 8796093022208 then (impl_TalliesOf.l1 k2 (x6_2 ++ [(⟨rd t974 x33_2, 1⟩ : S65)]) t974 (x3_1.length : Int) (wrap64 (x33_2 + 1))) else (none))) else (none)) else (none)) = some r := by first | (rw [hji23] at H; exact H) | (simp only [hji23] at H ⊢; exact H)
          have hji23w : (IntKind.i64.wrap ((x6_2.length : Int) - 1)) = ji23 := (i64_w _).trans hji23
          by_cases c24 : 0 ≤ (ji23)
          ·rw [if_pos c24] at H
           have c24b0 : decide (0 ≤ (ji23)) = true := decide_eq_true c24
           clear c24
           by_cases c25 : (ji23) < (x6_2.length : Int)
           ·rw [if_pos c25] at H
            have c25b0 : decide ((ji23) < (x6_2.length : Int)) = true := decide_eq_true c25
            clear c25
            by_cases c26 : ((rd_T65 x6_2 (ji23)).f0) = (rd t974 x33_2)
            ·rw [if_pos c26] at H
             have c26b0 : (((rd_T65 x6_2 (ji23)).f0) == (rd t974 x33_2)) = true := beq_iff_eq.mpr c26
             have c26b1 : (((rd_T65 x6_2 (ji23)).f0) != (rd t974 x33_2)) = false := bne_eq_false_iff_eq.mpr c26
             clear c26
             obtain ⟨y981, hy981⟩ : ∃ y_ : List (S65), y_ = (x6_2.set ((ji23) : Int).toNat (⟨(rd_T65 x6_2 (ji23)).f0, wrap64 (((rd_T65 x6_2 (ji23)).f1) + 1)⟩ : S65)) := ⟨_, rfl⟩
             replace H : (impl_TalliesOf.l1 k2 y981 t974 (x3_1.length : Int) (wrap64 (x33_2 + 1))) = some r := by first | (rw [hy981]; with_reducible exact H) | (have H2_ := (Option.bind_some _ _).symm.trans H; rw [hy981]; with_reducible exact H2_) | (have H2_ := (Option.bind_some _ _).symm.trans H; with_reducible exact H2_) | with_reducible exact H | (rw [hy981]; exact H) | exact H
             have Ny981 := Aside0.mk hy981
             clear hy981
             have H' := Aside0.mk H
             clear H
             have p978 : 0 ≤ (x33_2 : Int) := of_decide_eq_true as_
             have q978 : x33_2 < (t974.length : Int) := of_decide_eq_true as_
             obtain ⟨ad978, e978, hx978_0⟩ := Kd.at_int (Kd.R_reads' HO_31.out).2.2 x33_2 p978 q978
             cases e978
             replace p978 := eq_true p978
             replace q978 := eq_true q978
             obtain ⟨Ao28, co28, eo28⟩ := Kd.R_slice HO_6.out
             subst eo28
             have p979 : 0 ≤ ((ji23) : Int) := of_decide_eq_true as_
             have q979 : (ji23) < (x6_2.length : Int) := of_decide_eq_true as_
             obtain ⟨ad979, e979, hx979_0, hx979_1⟩ := at_T65 (Kd.R_reads' HO_6.out).2.2 (ji23) p979 q979
             cases e979
             replace p979 := eq_true p979
             replace q979 := eq_true q979
             have p980 : 0 ≤ ((ji23) : Int) := of_decide_eq_true as_
             have q980 : (ji23) < (x6_2.length : Int) := of_decide_eq_true as_
             obtain ⟨ad980, e980, hx980_0, hx980_1⟩ := at_T65 (Kd.R_reads' HO_6.out).2.2 (ji23) p980 q980
             obtain rfl : ad979 = ad980 := (by injection e980)
             replace p980 := eq_true p980
             replace q980 := eq_true q980
             have p27 : 0 ≤ ((ji23) : Int) := of_decide_eq_true as_
             have q27 : ((ji23) : Int) < ((x6_2.length : Int) : Int) := of_decide_eq_true as_
             obtain ⟨go27, co27, eo27, gb27, gl27, cl27, HG27⟩ := Kd.R_form HO_6.out (by omega)
             (first | cases eo27 | (injection eo27 with ea_ en_ ec_; (first | subst ea_ | (injection ea_ with ea_; subst ea_)); subst ec_; clear en_))
             have GB27 := Aside0.mk gb27
             have GG27 := Aside0.mk HG27
             clear gb27 gl27 HG27
             (first | simp only [add_plain] at hx979_0 | skip)
             (first | simp only [add_plain] at hx979_1 | skip)
             (first | simp only [add_plain] at hx980_0 | skip)
             (first | simp only [add_plain] at hx980_1 | skip)
             obtain ⟨ce27, hcl27, hM27, hcc27, hfr27⟩ := Kd.R_elem HO_6.out z65 ((ji23) : Int) p27 q27
             obtain rfl := k65_openM hM27
             have hx27_0 : wr.cell? ⟨go27, ((ji23) : Int).toNat * 2, none⟩ = some (.int .i64 ((rd_T65 x6_2 (ji23)).f0)) := hcc27 0 _ rfl
             have hx27_1 : wr.cell? ⟨go27, ((ji23) : Int).toNat * 2 + 1, none⟩ = some (.int .i64 ((rd_T65 x6_2 (ji23)).f1)) := hcc27 1 _ rfl
             have hf27_0 : wr.frozen? ⟨go27, ((ji23) : Int).toNat * 2, none⟩ = false := hfr27 0
             have hf27_1 : wr.frozen? ⟨go27, ((ji23) : Int).toNat * 2 + 1, none⟩ = false := hfr27 1
             clear hcl27 hcc27 hfr27 hM27
             replace p27 := eq_true p27
             replace q27 := eq_true q27
             have HX29 := Aside0.mk (show Kd.R k65 65 wr w.heap.size (fun _ => True) (.slice (some ⟨go27, 0, none⟩) x6_2.length co28) x6_2 from (ra_ HO_6.out))
             obtain ⟨ce29, hcl29, hM29, hcc29, hfr29⟩ := Kd.R_elem HX29.out z65 ((ji23) : Int) (of_decide_eq_true as_) (by have h_ : ((ji23) : Int) < ((x6_2.length : Int) : Int) := of_decide_eq_true as_; first | exact h_ | (have e_ := (Kd.R_reads' HO_6.out).1; omega) | simpa using h_)
             obtain rfl := k65_openM hM29
             have HP29 := Kd.R_seg HX29.out ((ji23) : Int) (of_decide_eq_true as_) (by have h_ : ((ji23) : Int) < ((x6_2.length : Int) : Int) := of_decide_eq_true as_; first | exact h_ | (have e_ := (Kd.R_reads' HO_6.out).1; omega) | simpa using h_) (seg := [.int .i64 (wrap64 (((rd_T65 x6_2 (ji23)).f1) + 1))]) (j := 1) hcl29 hcc29 (show 2 ≤ 2 from by decide) (x' := (⟨(rd_T65 x6_2 (ji23)).f0, wrap64 (((rd_T65 x6_2 (ji23)).f1) + 1)⟩ : S65)) (k65_mkM _ _ _ (⟨(rd_T65 x6_2 (ji23)).f0, wrap64 (((rd_T65 x6_2 (ji23)).f1) + 1)⟩ : S65) ) (fun _ hk => hk)
             have hx29_1 := hcc29 1 _ rfl
             (try simp only [show (k65).sz = 2 from rfl, Nat.mul_one, Nat.add_zero] at hx29_1)
             have hf29_1 := hfr29 1
             (try simp only [show (k65).sz = 2 from rfl, Nat.mul_one, Nat.add_zero] at hf29_1)
             clear hcl29 hcc29 hfr29 hM29
             go_wp2_with (first | ((with_reducible refine gate_store (t := 3) (p := 59) rfl ?_); refine store_event (t := 3) (p := 59) (v := ?vo_w30) (w1 := (wr.setCell ⟨go27, ((ji23) : Int).toNat * 2 + 1, none⟩ (.int .i64 (wrap64 (((rd_T65 x6_2 (ji23)).f1) + 1))))) ?hg ?ho ?hn ?hr ?_; (case ho => rfl); (case hg => rfl); (case hn => rfl); (case hr => first | (go_simp; done) | (go_simp; rfl)); intro w30 hw; have hg : wr.grownBy w30 (some go27) := (by rw [hw]; exact HP29.2); have hp_ : Kd.R k65 65 w30 w.heap.size (fun _ => True) (.slice (some ⟨go27, 0, none⟩) x6_2.length co28) y981 := (by rw [hw, Ny981.out]; exact HP29.1); clear HP29; have n0_ := Aside0.mk (hp_); have n1_ := Aside0.mk (Kd.R_over' (v := (.slice (some ⟨go27, 0, none⟩) x6_2.length co28)) (ra_ HO_31.out) (Kd.R_typed HO_6.out) (by decide) hg); have n2_ := Aside0.mk ((by rw [hw]; exact below_set (HB.out) GB27.out : Below w.heap.size w w30)); clear HO_6; clear HO_31; clear HB; have HO_6 := n0_; have HO_31 := n1_; have HB := n2_; clear n0_ n1_ n2_; clear hg hw hp_))
             (try simp only [← hl31_2])
             go_roundg k2
             case measure => have := HK1.out; have := HK2.out; omega
             case rel => exact ⟨(y981), (wrap64 (x33_2 + 1)), (by first | rfl | (simp; done) | (simp [*]; done)), H', ⟨by have := HK1.out; have := HK2.out; omega⟩, ⟨by (try simp only [hl31_2]); (with_reducible repeat (first | apply Kd.R_alloc | apply Kd.R_drewN | apply Kd.R_drew)); exact HO_6.out⟩, ⟨by (try simp only [hl31_2]); (with_reducible repeat (first | apply Kd.R_alloc | apply Kd.R_drewN | apply Kd.R_drew)); exact HO_31.out⟩, ⟨bl_⟩⟩
            ·rw [if_neg c26] at H
             have c26b0 : (((rd_T65 x6_2 (ji23)).f0) == (rd t974 x33_2)) = false := beq_eq_false_iff_ne.mpr c26
             have c26b1 : (((rd_T65 x6_2 (ji23)).f0) != (rd t974 x33_2)) = true := bne_iff_ne.mpr c26
             by_cases c31 : x6_2.length < 8796093022208
             ·rw [if_pos c31] at H
              have LMc31 := Aside0.mk c31
              clear c31
              obtain ⟨y982, hy982⟩ : ∃ y_ : List (S65), y_ = (x6_2 ++ [(⟨rd t974 x33_2, 1⟩ : S65)]) := ⟨_, rfl⟩
              replace H : (impl_TalliesOf.l1 k2 y982 t974 (x3_1.length : Int) (wrap64 (x33_2 + 1))) = some r := by first | (rw [hy982]; with_reducible exact H) | (have H2_ := (Option.bind_some _ _).symm.trans H; rw [hy982]; with_reducible exact H2_) | (have H2_ := (Option.bind_some _ _).symm.trans H; with_reducible exact H2_) | with_reducible exact H | (rw [hy982]; exact H) | exact H
              have Ny982 := Aside0.mk hy982
              clear hy982
              have H' := Aside0.mk H
              clear H
              have p978 : 0 ≤ (x33_2 : Int) := of_decide_eq_true as_
              have q978 : x33_2 < (t974.length : Int) := of_decide_eq_true as_
              obtain ⟨ad978, e978, hx978_0⟩ := Kd.at_int (Kd.R_reads' HO_31.out).2.2 x33_2 p978 q978
              cases e978
              replace p978 := eq_true p978
              replace q978 := eq_true q978
              obtain ⟨Ao32, co32, eo32⟩ := Kd.R_slice HO_6.out
              subst eo32
              have p979 : 0 ≤ ((ji23) : Int) := of_decide_eq_true as_
              have q979 : (ji23) < (x6_2.length : Int) := of_decide_eq_true as_
              obtain ⟨ad979, e979, hx979_0, hx979_1⟩ := at_T65 (Kd.R_reads' HO_6.out).2.2 (ji23) p979 q979
              cases e979
              replace p979 := eq_true p979
              replace q979 := eq_true q979
              go_wp2_with (first | ((with_reducible refine gate_builtin (b := .append) (xs := #[.tmp 60, .tmp 63]) rfl ?_); at_builtin; refine Kd.R_append k65 (w0 := w) w.heap.size rfl (.tmp 60) (.tmp 63) 59 65 (.agg #[(.int .i64 0), (.int .i64 0)]) 16 rfl Try.underlying59 info65 rfl (by decide) (by omega) (.slice (some ad979) x6_2.length co32) x6_2 (⟨rd t974 x33_2, 1⟩ : S65) [.int .i64 (rd t974 x33_2), .int .i64 1] (fun _ => True) (fun _ => False) rfl rfl ?aP (fun _ hk => hk.elim) ?aF ?aO ?aB ?aS ?aL ?_; (case aP => exact k65_mkM _ _ _ (⟨rd t974 x33_2, 1⟩ : S65)); (case aB => exact bl_); (case aF => exact (fun _ _ => trivial)); (case aO => exact (ra_ HO_6.out)); (case aS => exact (below_size bl_)); (case aL => have := LMc31.out; omega); intro v983 w33 ho hb hg hat; rw [← Ny982.out] at ho; have n0_ := Aside0.mk (Kd.R_over' (ra_ HO_31.out) (Kd.R_typed (ra_ HO_6.out)) (by decide) hg); have n1_ := Aside0.mk (hb); have n2_ := Aside0.mk (ho); clear HO_31; clear HB; clear HO_6; have HO_31 := n0_; have HB := n1_; have HO984 := n2_; clear n0_ n1_ n2_; clear ho hb hg hat))
              (try simp only [← hl31_2])
              go_roundg k2
              case measure => have := HK1.out; have := HK2.out; omega
              case rel => exact ⟨(y982), (wrap64 (x33_2 + 1)), (by first | rfl | (simp; done) | (simp [*]; done)), H', ⟨by have := HK1.out; have := HK2.out; omega⟩, ⟨by (try simp only [hl31_2]); (with_reducible repeat (first | apply Kd.R_alloc | apply Kd.R_drewN | apply Kd.R_drew)); exact HO984.out⟩, ⟨by (try simp only [hl31_2]); (with_reducible repeat (first | apply Kd.R_alloc | apply Kd.R_drewN | apply Kd.R_drew)); exact HO_31.out⟩, ⟨bl_⟩⟩
             ·rw [if_neg c31] at H
              exact absurd H (by simp)
           ·rw [if_neg c25] at H
            exact absurd H (by simp)
          ·rw [if_neg c24] at H
           exact absurd H (by simp)
         ·rw [if_neg c22] at H
          have c22b0 : decide (0 < (x6_2.length : Int)) = false := decide_eq_false c22
          have c22b1 : decide (0 < x6_2.length) = false := decide_eq_false (by omega)
          clear c22
          by_cases c34 : x6_2.length < 8796093022208
          ·rw [if_pos c34] at H
           have LMc34 := Aside0.mk c34
           clear c34
           obtain ⟨y985, hy985⟩ : ∃ y_ : List (S65), y_ = (x6_2 ++ [(⟨rd t974 x33_2, 1⟩ : S65)]) := ⟨_, rfl⟩
           replace H : (impl_TalliesOf.l1 k2 y985 t974 (x3_1.length : Int) (wrap64 (x33_2 + 1))) = some r := by first | (rw [hy985]; with_reducible exact H) | (have H2_ := (Option.bind_some _ _).symm.trans H; rw [hy985]; with_reducible exact H2_) | (have H2_ := (Option.bind_some _ _).symm.trans H; with_reducible exact H2_) | with_reducible exact H | (rw [hy985]; exact H) | exact H
           have Ny985 := Aside0.mk hy985
           clear hy985
           have H' := Aside0.mk H
           clear H
           have p978 : 0 ≤ (x33_2 : Int) := of_decide_eq_true as_
           have q978 : x33_2 < (t974.length : Int) := of_decide_eq_true as_
           obtain ⟨ad978, e978, hx978_0⟩ := Kd.at_int (Kd.R_reads' HO_31.out).2.2 x33_2 p978 q978
           cases e978
           replace p978 := eq_true p978
           replace q978 := eq_true q978
           obtain ⟨Ao35, co35, eo35⟩ := Kd.R_slice HO_6.out
           subst eo35
           go_wp2_with (first | ((with_reducible refine gate_builtin (b := .append) (xs := #[.tmp 60, .tmp 63]) rfl ?_); at_builtin; refine Kd.R_append k65 (w0 := w) w.heap.size rfl (.tmp 60) (.tmp 63) 59 65 (.agg #[(.int .i64 0), (.int .i64 0)]) 16 rfl Try.underlying59 info65 rfl (by decide) (by omega) (.slice Ao35 x6_2.length co35) x6_2 (⟨rd t974 x33_2, 1⟩ : S65) [.int .i64 (rd t974 x33_2), .int .i64 1] (fun _ => True) (fun _ => False) rfl rfl ?aP (fun _ hk => hk.elim) ?aF ?aO ?aB ?aS ?aL ?_; (case aP => exact k65_mkM _ _ _ (⟨rd t974 x33_2, 1⟩ : S65)); (case aB => exact bl_); (case aF => exact (fun _ _ => trivial)); (case aO => exact (ra_ HO_6.out)); (case aS => exact (below_size bl_)); (case aL => have := LMc34.out; omega); intro v986 w36 ho hb hg hat; rw [← Ny985.out] at ho; have n0_ := Aside0.mk (Kd.R_over' (ra_ HO_31.out) (Kd.R_typed (ra_ HO_6.out)) (by decide) hg); have n1_ := Aside0.mk (hb); have n2_ := Aside0.mk (ho); clear HO_31; clear HB; clear HO_6; have HO_31 := n0_; have HB := n1_; have HO987 := n2_; clear n0_ n1_ n2_; clear ho hb hg hat))
           (try simp only [← hl31_2])
           go_roundg k2
           case measure => have := HK1.out; have := HK2.out; omega
           case rel => exact ⟨(y985), (wrap64 (x33_2 + 1)), (by first | rfl | (simp; done) | (simp [*]; done)), H', ⟨by have := HK1.out; have := HK2.out; omega⟩, ⟨by (try simp only [hl31_2]); (with_reducible repeat (first | apply Kd.R_alloc | apply Kd.R_drewN | apply Kd.R_drew)); exact HO987.out⟩, ⟨by (try simp only [hl31_2]); (with_reducible repeat (first | apply Kd.R_alloc | apply Kd.R_drewN | apply Kd.R_drew)); exact HO_31.out⟩, ⟨bl_⟩⟩
          ·rw [if_neg c34] at H
           exact absurd H (by simp)
        ·rw [if_neg c21] at H
         exact absurd H (by simp)
       ·rw [if_neg c20] at H
        exact absurd H (by simp)
      ·rw [if_neg c19] at H
       have c19b0 : decide (x33_2 < (x3_1.length : Int)) = false := decide_eq_false c19
       clear c19
       (try simp only [hl31_2] at c19b0)
       obtain rfl := Option.some.inj H
       go_wp2
       go_ret
       exact ⟨_, by first | rfl | (simp [errW_none, errW_some] <;> rfl) | (simp [*, errW_none, errW_some] <;> rfl) | exact False.elim (Bool.noConfusion ((decide_eq_true (of_eq_true (by assumption))).symm.trans (by assumption))), ra_ HO_6.out, bl_⟩

end Go.Proofs.Ytmjlhikflhbdaaa.PA

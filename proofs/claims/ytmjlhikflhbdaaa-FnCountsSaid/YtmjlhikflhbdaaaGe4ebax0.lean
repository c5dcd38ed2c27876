/- Contracts of functions of the program and of the reference, and plain lemmas on what they compute. No condition. -/
import Derived.Test.YtmjlhikflhbdaaaGabbbex0
import Derived.Test.YtmjlhikflhbdaaaG06b76x0
import Derived.Test.YtmjlhikflhbdaaaShortV
namespace Go.Proofs.Ytmjlhikflhbdaaa.PA
open Go.RowKit Go.Proofs.Ytmjlhikflhbdaaa.Short Go.Proofs.YtmjlhikflhbdaaaW.PrintWords Go.Proofs.YtmjlhikflhbdaaaW.PrintLast Go.Proofs.YtmjlhikflhbdaaaW.PrintMore
attribute [local go_sem] max2_int min2_int max_two min_two max_three min_three max_four min_four   -- for this text's walks alone
set_option linter.unusedVariables false
set_option linter.unusedSimpArgs false

/-! ### impl_MostTold: function 41 -/
def impl_MostTold.l0 : Nat → List (S65) → Int → Int → Int → Int → Option (Int)
 | 0, _, _, _, _, _ => none
 | k + 1, x8, x9, x10, x989000, x989001 => if x10 < x9 then (if 0 ≤ x10 then (if x10 < (x8.length : Int) then (if ((rd_T65 x8 x10).f1) > x989001 then (impl_MostTold.l0 k x8 x9 (wrap64 (x10 + 1)) ((rd_T65 x8 x10).f0) ((rd_T65 x8 x10).f1)) else (impl_MostTold.l0 k x8 x9 (wrap64 (x10 + 1)) x989000 x989001)) else (none)) else (none)) else (some x989000)
def impl_MostTold.f (k : Nat) (l0 : List (S131)) : Option (Int) := (impl_TalliesOf.f k l0).bind fun t989 => (impl_MostTold.l0 k t989 (t989.length : Int) 0 (-1) 0)
theorem impl_MostTold.mono_l : ∀ k, (∀ y0 y1 y2 y3 y4, LeO (impl_MostTold.l0 k y0 y1 y2 y3 y4) (impl_MostTold.l0 (k + 1) y0 y1 y2 y3 y4))
 | 0 => fun _ _ _ _ _ r h => by simp [impl_MostTold.l0] at h
 | k + 1 => by
  have ih0 := impl_MostTold.mono_l k
  ·intro y0 y1 y2 y3 y4
   unfold impl_MostTold.l0
   repeat' first
   | (with_reducible exact ih0 _ _ _ _ _)
   | (with_reducible exact impl_TalliesOf.mono _ _)
   | (with_reducible exact LeO.refl _)
   | (with_reducible exact LeO.none _)
   | (with_reducible refine LeO.ite ?_ ?_)
   | (with_reducible refine LeO.bind ?_ (fun _ => ?_))
   | exact ih0 _ _ _ _ _
   | exact impl_TalliesOf.mono _ _
   | exact LeO.none _
   | refine LeO.ite ?_ ?_
   | refine LeO.bind ?_ (fun _ => ?_)
theorem impl_MostTold.mono : ∀ a0 k, LeO (impl_MostTold.f k a0) (impl_MostTold.f (k + 1) a0) := by
 intro a0 k
 have ih0 := impl_MostTold.mono_l k
 unfold impl_MostTold.f
 repeat' first
  | (with_reducible exact ih0 _ _ _ _ _)
  | (with_reducible exact impl_TalliesOf.mono _ _)
  | (with_reducible exact LeO.refl _)
  | (with_reducible exact LeO.none _)
  | (with_reducible refine LeO.ite ?_ ?_)
  | (with_reducible refine LeO.bind ?_ (fun _ => ?_))
  | exact ih0 _ _ _ _ _
  | exact impl_TalliesOf.mono _ _
  | exact LeO.none _
  | refine LeO.ite ?_ ?_
  | refine LeO.bind ?_ (fun _ => ?_)
set_option maxHeartbeats 8000000 in
set_option maxRecDepth 100000 in
theorem impl_MostTold.calls (k : Nat) (A0 : Option Addr) (c0 : Nat) (l0 : List (S131)) (r : Int) (w : World) (hr0 : Kd.C k131 w A0 l0.length l0) (hc0 : l0.length ≤ c0) (h : impl_MostTold.f k l0 = some r) :
 Calls Try.prog 41 #[.slice A0 l0.length c0] w fun e w' => e = .returned (.int .i64 r) ∧ Below w.heap.size w w' := by
 have hu65 := Try.underlying65
 have HR0 := Aside0.mk hr0
 have HC0 := Aside0.mk hc0
 clear hr0 hc0
 have HB := Aside0.mk (Below.refl w.heap.size w)
 have H : ((impl_TalliesOf.f k l0).bind fun t989 => (impl_MostTold.l0 k t989 (t989.length : Int) 0 (-1) 0)) = some r := h
 clear h
 replace H := Option.bind_eq_some_iff.mp H
 obtain ⟨t989, A20, H⟩ := H
 try dsimp only at H
 have A2 := Aside0.mk A20
 clear A20
 have H' := Aside0.mk H
 clear H
 go_enter Try.func41, Try.ntmps41
 go_wp2_with (first | ((with_reducible refine gate_dst (N := 3) rfl ?_); refine box_event ?hg (N := 3) ?hd (cs := #[.int .i64 0, .int .i64 0]) (t := 65) ?hr ?_; (case hd => rfl); (case hg => rfl); (case hr => first | (go_simp; done) | (go_simp; rfl)); intro gb988 hg w3 hbox hb; have n0_ := Aside0.mk (below_step bl_ hb); have n1_ := Aside0.mk (hbox); have n2_ := Aside0.mk ((hz_ : w.heap.size ≤ gb988)); have n3_ := Aside0.mk ((hz_ : w.heap.size ≤ gb988)); clear HB; have HB := n0_; have BK988 := n1_; have GW988 := n2_; have GE988 := n3_; clear n0_ n1_ n2_ n3_; clear hb hbox hg; have hcz4_0 : w3.cell? ⟨gb988, 0, none⟩ = some (.int .i64 0) := (blk_cell BK988.out 0).trans rfl; have hcz4_1 : w3.cell? ⟨gb988, 1, none⟩ = some (.int .i64 0) := (blk_cell BK988.out 1).trans rfl; have hfz4_0 := blk_frozen BK988.out 0; have hfz4_1 := blk_frozen BK988.out 1) | ((with_reducible refine gate_callee (f := 50) rfl ?_); refine goesL_ (some 8) rfl rfl Try.func50 (by kernel_rfl) rfl #[.slice A0 l0.length c0] rfl lm_ ?_; (with_reducible refine (impl_TalliesOf.calls k _ _ l0 t989 _ ?side1 ?side2 A2.out).mono ?_); (case side1 => exact Kd.C_below HR0.out bl_); (case side2 => exact HC0.out); rintro e w5 ⟨v990, rfl, ho0, hb⟩; refine ⟨_, rfl, ?_⟩; have n0_ := Aside0.mk (Kd.R_lower (Kd.R_newB ho0 (g := gb988) (o := .cells #[.int .i64 (-1), .int .i64 0] 65 (0, 0)) (by (with_reducible repeat (first | refine blk_drewN ?_ _ | refine blk_drew ?_ | refine blk_alloc ?_ _)); refine blk_put (cs := #[.int .i64 (-1), .int .i64 0]) ?_ 1 _ rfl; (with_reducible repeat (first | refine blk_drewN ?_ _ | refine blk_drew ?_ | refine blk_alloc ?_ _)); refine blk_put (cs := #[.int .i64 0, .int .i64 0]) ?_ 0 _ rfl; (with_reducible repeat (first | refine blk_drewN ?_ _ | refine blk_drew ?_ | refine blk_alloc ?_ _)); exact BK988.out)) (below_size bl_)); have n1_ := Aside0.mk (blk_below (g := gb988) (o := .cells #[.int .i64 (-1), .int .i64 0] 65 (0, 0)) (by (with_reducible repeat (first | refine blk_drewN ?_ _ | refine blk_drew ?_ | refine blk_alloc ?_ _)); refine blk_put (cs := #[.int .i64 (-1), .int .i64 0]) ?_ 1 _ rfl; (with_reducible repeat (first | refine blk_drewN ?_ _ | refine blk_drew ?_ | refine blk_alloc ?_ _)); refine blk_put (cs := #[.int .i64 0, .int .i64 0]) ?_ 0 _ rfl; (with_reducible repeat (first | refine blk_drewN ?_ _ | refine blk_drew ?_ | refine blk_alloc ?_ _)); exact BK988.out) hb); have n2_ := Aside0.mk (below_step bl_ hb); clear BK988; clear HB; have HO991 := n0_; have BK988 := n1_; have HB := n2_; clear n0_ n1_ n2_; (try clear hb); (try clear hb2); (try clear hk); (try clear hi); (try clear ho0); obtain ⟨Ao6, co6, eo6⟩ := Kd.R_slice HO991.out; subst eo6))
 go_loopg [10] k (fun kq v10 w' => ∃ (x10_1 : Int) (x989000_1 : Int) (x989001_1 : Int), v10 = .int .i64 x10_1 ∧ Aside0 (impl_MostTold.l0 kq t989 (t989.length : Int) x10_1 x989000_1 x989001_1 = some r) ∧ Aside0 (kq ≤ k) ∧ Aside0 (Kd.R k65 65 w' w.heap.size (fun k_ => k_ ≠ gb988) (.slice Ao6 t989.length co6) t989) ∧ Aside0 (w'.heap[gb988]? = some (.cells #[.int .i64 x989000_1, .int .i64 x989001_1] 65 (0, 0))) ∧ Aside0 (Below w.heap.size w w'))
 case atStart => exact ⟨(0), ((-1)), (0), (by first | rfl | (simp; done) | (simp [*]; done)), H', ⟨Nat.le_refl _⟩, ⟨by (with_reducible repeat (first | apply Kd.R_alloc | apply Kd.R_drewN | apply Kd.R_drew)); exact Kd.R_mono HO991.out (fun _ hk => hk.2)⟩, ⟨bk_ BK988.out⟩, ⟨bl_⟩⟩
 case round =>
  clear H'
  try clear p2
  try clear c4
  try clear c5
  try clear hcz4_0
  try clear hcz4_1
  try clear hfz4_0
  try clear hfz4_1
  obtain ⟨x10_1, x989000_1, x989001_1, rfl, HA, HK1, HO_8, BK988, HB⟩ := hrel
  cases gk with
  | zero => exact absurd HA.out (by simp [impl_MostTold.l0])
  | succ k1 =>
   have H := HA.out
   clear HA
   simp only [impl_MostTold.l0] at H
   by_cases c7 : x10_1 < (t989.length : Int)
   ·rw [if_pos c7] at H
    have c7b0 : decide (x10_1 < (t989.length : Int)) = true := decide_eq_true c7
    clear c7
    by_cases c8 : 0 ≤ x10_1
    ·rw [if_pos c8] at H
     have c8b0 : decide (0 ≤ x10_1) = true := decide_eq_true c8
     clear c8
     by_cases c9 : x10_1 < (t989.length : Int)
     ·rw [if_pos c9] at H
      have c9b0 : decide (x10_1 < (t989.length : Int)) = true := decide_eq_true c9
      clear c9
      by_cases c10 : ((rd_T65 t989 x10_1).f1) > x989001_1
      ·rw [if_pos c10] at H
       have c10b0 : decide (x989001_1 < ((rd_T65 t989 x10_1).f1)) = true := decide_eq_true c10
       clear c10
       have H' := Aside0.mk H
       clear H
       have p992 : 0 ≤ (x10_1 : Int) := of_decide_eq_true as_
       have q992 : x10_1 < (t989.length : Int) := of_decide_eq_true as_
       obtain ⟨ad992, e992, hx992_0, hx992_1⟩ := at_T65 (Kd.R_reads' HO_8.out).2.2 x10_1 p992 q992
       cases e992
       replace p992 := eq_true p992
       replace q992 := eq_true q992
       go_wp2_with (first | ((with_reducible refine gate_dst (N := 5) rfl ?_); refine box_event ?hg (N := 5) ?hd (cs := #[.int .i64 0, .int .i64 0]) (t := 65) ?hr ?_; (case hd => rfl); (case hg => rfl); (case hr => first | (go_simp; done) | (go_simp; rfl)); intro gb993 hg w11 hbox hb; have n0_ := Aside0.mk (Kd.R_below (Kd.R_elderB (ra_ HO_8.out) gb993 (Nat.le_of_eq hg.symm)) hb); have n1_ := Aside0.mk (blk_below (g := gb988) (o := .cells #[.int .i64 x989000_1, .int .i64 x989001_1] 65 (0, 0)) (bk_ BK988.out) hb); have n2_ := Aside0.mk (below_step bl_ hb); have n3_ := Aside0.mk (hbox); have n4_ := Aside0.mk ((hz_ : w.heap.size ≤ gb993)); have n5_ := Aside0.mk ((hz_ : w.heap.size ≤ gb993)); have n6_ := Aside0.mk ((by rw [hg]; exact Nat.ne_of_lt (blk_lt (g := gb988) (o := .cells #[.int .i64 x989000_1, .int .i64 x989001_1] 65 (0, 0)) (bk_ BK988.out)) : gb988 ≠ gb993)); have n7_ := Aside0.mk ((by rw [hg]; exact Nat.ne_of_gt (blk_lt (g := gb988) (o := .cells #[.int .i64 x989000_1, .int .i64 x989001_1] 65 (0, 0)) (bk_ BK988.out)) : gb993 ≠ gb988)); clear HO_8; clear BK988; clear HB; have HO_8 := n0_; have BK988 := n1_; have HB := n2_; have BK993 := n3_; have GW993 := n4_; have GE993 := n5_; have NB988_993 := n6_; have NB993_988 := n7_; clear n0_ n1_ n2_ n3_ n4_ n5_ n6_ n7_; clear hb hbox hg; have hnb12 := NB993_988.out; have hnc12 := NB988_993.out; have hcz13_0 : w11.cell? ⟨gb993, 0, none⟩ = some (.int .i64 0) := (blk_cell BK993.out 0).trans rfl; have hcz13_1 : w11.cell? ⟨gb993, 1, none⟩ = some (.int .i64 0) := (blk_cell BK993.out 1).trans rfl; have hfz13_0 := blk_frozen BK993.out 0; have hfz13_1 := blk_frozen BK993.out 1; have hcz14_0 : w11.cell? ⟨gb988, 0, none⟩ = some (.int .i64 x989000_1) := (blk_cell BK988.out 0).trans rfl; have hcz14_1 : w11.cell? ⟨gb988, 1, none⟩ = some (.int .i64 x989001_1) := (blk_cell BK988.out 1).trans rfl; have hfz14_0 := blk_frozen BK988.out 0; have hfz14_1 := blk_frozen BK988.out 1))
       go_roundg k1
       case measure => have := HK1.out; omega
       case rel => exact ⟨(wrap64 (x10_1 + 1)), ((rd_T65 t989 x10_1).f0), ((rd_T65 t989 x10_1).f1), (by first | rfl | (simp; done) | (simp [*]; done)), H', ⟨by have := HK1.out; omega⟩, ⟨by (with_reducible repeat (first | apply Kd.R_alloc | apply Kd.R_drewN | apply Kd.R_drew)); exact Kd.R_mono (Kd.R_far (p := ⟨gb988, 1, none⟩) (Kd.R_far (p := ⟨gb988, 0, none⟩) (Kd.R_far (p := ⟨gb993, 1, none⟩) (Kd.R_far (p := ⟨gb993, 0, none⟩) (Kd.R_mono (Kd.R_mono HO_8.out (fun k_ hk => (⟨hk, hk.2⟩ : _ ∧ k_ ≠ gb993))) (fun k_ hk => (⟨hk, hk.1.1⟩ : _ ∧ k_ ≠ gb988))) (fun _ hk => hk.1.2) (.int .i64 ((rd_T65 t989 x10_1).f0))) (fun _ hk => hk.1.2) (.int .i64 ((rd_T65 t989 x10_1).f1))) (fun _ hk => hk.2) (.int .i64 ((rd_T65 t989 x10_1).f0))) (fun _ hk => hk.2) (.int .i64 ((rd_T65 t989 x10_1).f1))) (fun _ hk => hk.1.1.1)⟩, ⟨by (with_reducible repeat (first | refine blk_drewN ?_ _ | refine blk_drew ?_ | refine blk_alloc ?_ _)); refine blk_put (cs := #[.int .i64 ((rd_T65 t989 x10_1).f0), .int .i64 x989001_1]) ?_ 1 _ rfl; (with_reducible repeat (first | refine blk_drewN ?_ _ | refine blk_drew ?_ | refine blk_alloc ?_ _)); refine blk_put (cs := #[.int .i64 x989000_1, .int .i64 x989001_1]) ?_ 0 _ rfl; (with_reducible repeat (first | refine blk_drewN ?_ _ | refine blk_drew ?_ | refine blk_alloc ?_ _)); refine blk_far ?_ NB988_993.out _; (with_reducible repeat (first | refine blk_drewN ?_ _ | refine blk_drew ?_ | refine blk_alloc ?_ _)); refine blk_far ?_ NB988_993.out _; (with_reducible repeat (first | refine blk_drewN ?_ _ | refine blk_drew ?_ | refine blk_alloc ?_ _)); exact BK988.out⟩, ⟨bl_⟩⟩
      ·rw [if_neg c10] at H
       have c10b0 : decide (x989001_1 < ((rd_T65 t989 x10_1).f1)) = false := decide_eq_false c10
       clear c10
       have H' := Aside0.mk H
       clear H
       have p992 : 0 ≤ (x10_1 : Int) := of_decide_eq_true as_
       have q992 : x10_1 < (t989.length : Int) := of_decide_eq_true as_
       obtain ⟨ad992, e992, hx992_0, hx992_1⟩ := at_T65 (Kd.R_reads' HO_8.out).2.2 x10_1 p992 q992
       cases e992
       replace p992 := eq_true p992
       replace q992 := eq_true q992
       go_wp2_with (first | ((with_reducible refine gate_dst (N := 5) rfl ?_); refine box_event ?hg (N := 5) ?hd (cs := #[.int .i64 0, .int .i64 0]) (t := 65) ?hr ?_; (case hd => rfl); (case hg => rfl); (case hr => first | (go_simp; done) | (go_simp; rfl)); intro gb993 hg w15 hbox hb; have n0_ := Aside0.mk (Kd.R_below (Kd.R_elderB (ra_ HO_8.out) gb993 (Nat.le_of_eq hg.symm)) hb); have n1_ := Aside0.mk (blk_below (g := gb988) (o := .cells #[.int .i64 x989000_1, .int .i64 x989001_1] 65 (0, 0)) (bk_ BK988.out) hb); have n2_ := Aside0.mk (below_step bl_ hb); have n3_ := Aside0.mk (hbox); have n4_ := Aside0.mk ((hz_ : w.heap.size ≤ gb993)); have n5_ := Aside0.mk ((hz_ : w.heap.size ≤ gb993)); have n6_ := Aside0.mk ((by rw [hg]; exact Nat.ne_of_lt (blk_lt (g := gb988) (o := .cells #[.int .i64 x989000_1, .int .i64 x989001_1] 65 (0, 0)) (bk_ BK988.out)) : gb988 ≠ gb993)); have n7_ := Aside0.mk ((by rw [hg]; exact Nat.ne_of_gt (blk_lt (g := gb988) (o := .cells #[.int .i64 x989000_1, .int .i64 x989001_1] 65 (0, 0)) (bk_ BK988.out)) : gb993 ≠ gb988)); clear HO_8; clear BK988; clear HB; have HO_8 := n0_; have BK988 := n1_; have HB := n2_; have BK993 := n3_; have GW993 := n4_; have GE993 := n5_; have NB988_993 := n6_; have NB993_988 := n7_; clear n0_ n1_ n2_ n3_ n4_ n5_ n6_ n7_; clear hb hbox hg; have hnb16 := NB993_988.out; have hnc16 := NB988_993.out; have hcz17_0 : w15.cell? ⟨gb993, 0, none⟩ = some (.int .i64 0) := (blk_cell BK993.out 0).trans rfl; have hcz17_1 : w15.cell? ⟨gb993, 1, none⟩ = some (.int .i64 0) := (blk_cell BK993.out 1).trans rfl; have hfz17_0 := blk_frozen BK993.out 0; have hfz17_1 := blk_frozen BK993.out 1; have hcz18_0 : w15.cell? ⟨gb988, 0, none⟩ = some (.int .i64 x989000_1) := (blk_cell BK988.out 0).trans rfl; have hcz18_1 : w15.cell? ⟨gb988, 1, none⟩ = some (.int .i64 x989001_1) := (blk_cell BK988.out 1).trans rfl; have hfz18_0 := blk_frozen BK988.out 0; have hfz18_1 := blk_frozen BK988.out 1))
       go_roundg k1
       case measure => have := HK1.out; omega
       case rel => exact ⟨(wrap64 (x10_1 + 1)), (x989000_1), (x989001_1), (by first | rfl | (simp; done) | (simp [*]; done)), H', ⟨by have := HK1.out; omega⟩, ⟨by (with_reducible repeat (first | apply Kd.R_alloc | apply Kd.R_drewN | apply Kd.R_drew)); exact Kd.R_mono (Kd.R_far (p := ⟨gb993, 1, none⟩) (Kd.R_far (p := ⟨gb993, 0, none⟩) (Kd.R_mono HO_8.out (fun k_ hk => (⟨hk, hk.2⟩ : _ ∧ k_ ≠ gb993))) (fun _ hk => hk.2) (.int .i64 ((rd_T65 t989 x10_1).f0))) (fun _ hk => hk.2) (.int .i64 ((rd_T65 t989 x10_1).f1))) (fun _ hk => hk.1.1)⟩, ⟨by (with_reducible repeat (first | refine blk_drewN ?_ _ | refine blk_drew ?_ | refine blk_alloc ?_ _)); refine blk_far ?_ NB988_993.out _; (with_reducible repeat (first | refine blk_drewN ?_ _ | refine blk_drew ?_ | refine blk_alloc ?_ _)); refine blk_far ?_ NB988_993.out _; (with_reducible repeat (first | refine blk_drewN ?_ _ | refine blk_drew ?_ | refine blk_alloc ?_ _)); exact BK988.out⟩, ⟨bl_⟩⟩
     ·rw [if_neg c9] at H
      exact absurd H (by simp)
    ·rw [if_neg c8] at H
     exact absurd H (by simp)
   ·rw [if_neg c7] at H
    have c7b0 : decide (x10_1 < (t989.length : Int)) = false := decide_eq_false c7
    clear c7
    obtain rfl := Option.some.inj H
    have hcz19_0 : wr.cell? ⟨gb988, 0, none⟩ = some (.int .i64 x989000_1) := (blk_cell BK988.out 0).trans rfl
    have hcz19_1 : wr.cell? ⟨gb988, 1, none⟩ = some (.int .i64 x989001_1) := (blk_cell BK988.out 1).trans rfl
    have hfz19_0 := blk_frozen BK988.out 0
    have hfz19_1 := blk_frozen BK988.out 1
    go_wp2
    go_ret
    exact ⟨by first | rfl | (simp [errW_none, errW_some] <;> rfl) | (simp [*, errW_none, errW_some] <;> rfl) | exact False.elim (Bool.noConfusion ((decide_eq_true (of_eq_true (by assumption))).symm.trans (by assumption))), bl_⟩

end Go.Proofs.Ytmjlhikflhbdaaa.PA

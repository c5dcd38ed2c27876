/- Contracts of functions of the program and of the reference, and plain lemmas on what they compute. No condition. -/
import Derived.Test.YtmjlhikflhbdaaaGabbbex0
import Derived.Test.YtmjlhikflhbdaaaG19bb7x0
import Derived.Test.YtmjlhikflhbdaaaShortV
namespace Go.Proofs.Ytmjlhikflhbdaaa.PA
open Go.RowKit Go.Proofs.Ytmjlhikflhbdaaa.Short Go.Proofs.YtmjlhikflhbdaaaW.PrintWords Go.Proofs.YtmjlhikflhbdaaaW.PrintLast Go.Proofs.YtmjlhikflhbdaaaW.PrintMore
attribute [local go_sem] max2_int min2_int max_two min_two max_three min_three max_four min_four   -- for this text's walks alone
set_option linter.unusedVariables false
set_option linter.unusedSimpArgs false

/-! ### spec_TalliesOf: function 49 -/
mutual
def spec_TalliesOf.l0 : Nat → List (S131) → List Int → Int → Option ((List (S65)))
 | 0, _, _, _ => none
 | k + 1, x0, x3, x4 => if x4 < (x0.length : Int) then (if 0 ≤ x4 then (if ((rd_T131 x0 x4).f2.f0) = 1 then ((spec_l09In.f k x3 ((rd_T131 x0 x4).f2.f1)).bind fun t925 => (if t925 = true then (spec_TalliesOf.l0 k x0 x3 (wrap64 (x4 + 1))) else ((spec_l23Put.f k x3 ((rd_T131 x0 x4).f2.f1)).bind fun t926 => (spec_TalliesOf.l0 k x0 t926 (wrap64 (x4 + 1)))))) else (spec_TalliesOf.l0 k x0 x3 (wrap64 (x4 + 1)))) else (none)) else (spec_TalliesOf.l1 k x0 x3 (([] : List (S65))) 0)
def spec_TalliesOf.l1 : Nat → List (S131) → List Int → List (S65) → Int → Option ((List (S65)))
 | 0, _, _, _, _ => none
 | k + 1, x0, x3, x6, x7 => if x7 < (x3.length : Int) then (spec_TalliesOf.l2 k x0 x3 x6 x7 0 0) else (some x6)
def spec_TalliesOf.l2 : Nat → List (S131) → List Int → List (S65) → Int → Int → Int → Option ((List (S65)))
 | 0, _, _, _, _, _, _ => none
 | k + 1, x0, x3, x6, x7, x8, x9 => if x9 < (x0.length : Int) then (if 0 ≤ x9 then (if ((rd_T131 x0 x9).f2.f0) = 1 then (if 0 ≤ x7 then (if x7 < (x3.length : Int) then (if ((rd_T131 x0 x9).f2.f1) = (rd x3 x7) then (spec_TalliesOf.l2 k x0 x3 x6 x7 (wrap64 (x8 + 1)) (wrap64 (x9 + 1))) else (spec_TalliesOf.l2 k x0 x3 x6 x7 x8 (wrap64 (x9 + 1)))) else (none)) else (none)) else (spec_TalliesOf.l2 k x0 x3 x6 x7 x8 (wrap64 (x9 + 1)))) else (none)) else (if 0 ≤ x7 then (if x7 < (x3.length : Int) then (if x6.length < 8796093022208 then (spec_TalliesOf.l1 k x0 x3 (x6 ++ [(⟨rd x3 x7, x8⟩ : S65)]) (wrap64 (x7 + 1))) else (none)) else (none)) else (none))
end
def spec_TalliesOf.f (k : Nat) (l0 : List (S131)) : Option ((List (S65))) := spec_TalliesOf.l0 k l0 (([] : List Int)) 0
theorem spec_TalliesOf.mono_l : ∀ k, (∀ y0 y1 y2, LeO (spec_TalliesOf.l0 k y0 y1 y2) (spec_TalliesOf.l0 (k + 1) y0 y1 y2)) ∧ (∀ y0 y1 y2 y3, LeO (spec_TalliesOf.l1 k y0 y1 y2 y3) (spec_TalliesOf.l1 (k + 1) y0 y1 y2 y3)) ∧ (∀ y0 y1 y2 y3 y4 y5, LeO (spec_TalliesOf.l2 k y0 y1 y2 y3 y4 y5) (spec_TalliesOf.l2 (k + 1) y0 y1 y2 y3 y4 y5))
 | 0 => ⟨fun _ _ _ r h => by simp [spec_TalliesOf.l0] at h, fun _ _ _ _ r h => by simp [spec_TalliesOf.l1] at h, fun _ _ _ _ _ _ r h => by simp [spec_TalliesOf.l2] at h⟩
 | k + 1 => by
  obtain ⟨ih0, ih1, ih2⟩ := spec_TalliesOf.mono_l k
  refine ⟨?_, ?_, ?_⟩
  ·intro y0 y1 y2
   unfold spec_TalliesOf.l0
   repeat' first
   | (with_reducible exact ih0 _ _ _)
   | (with_reducible exact ih1 _ _ _ _)
   | (with_reducible exact ih2 _ _ _ _ _ _)
   | (with_reducible exact spec_l09In.mono _ _ _)
   | (with_reducible exact spec_l23Put.mono _ _ _)
   | (with_reducible exact LeO.refl _)
   | (with_reducible exact LeO.none _)
   | (with_reducible refine LeO.ite ?_ ?_)
   | (with_reducible refine LeO.bind ?_ (fun _ => ?_))
   | exact ih0 _ _ _
   | exact ih1 _ _ _ _
   | exact ih2 _ _ _ _ _ _
   | exact spec_l09In.mono _ _ _
   | exact spec_l23Put.mono _ _ _
   | exact LeO.none _
   | refine LeO.ite ?_ ?_
   | refine LeO.bind ?_ (fun _ => ?_)
  ·intro y0 y1 y2 y3
   unfold spec_TalliesOf.l1
   repeat' first
   | (with_reducible exact ih0 _ _ _)
   | (with_reducible exact ih1 _ _ _ _)
   | (with_reducible exact ih2 _ _ _ _ _ _)
   | (with_reducible exact spec_l09In.mono _ _ _)
   | (with_reducible exact spec_l23Put.mono _ _ _)
   | (with_reducible exact LeO.refl _)
   | (with_reducible exact LeO.none _)
   | (with_reducible refine LeO.ite ?_ ?_)
   | (with_reducible refine LeO.bind ?_ (fun _ => ?_))
   | exact ih0 _ _ _
   | exact ih1 _ _ _ _
   | exact ih2 _ _ _ _ _ _
   | exact spec_l09In.mono _ _ _
   | exact spec_l23Put.mono _ _ _
   | exact LeO.none _
   | refine LeO.ite ?_ ?_
   | refine LeO.bind ?_ (fun _ => ?_)
  ·intro y0 y1 y2 y3 y4 y5
   unfold spec_TalliesOf.l2
   repeat' first
   | (with_reducible exact ih0 _ _ _)
   | (with_reducible exact ih1 _ _ _ _)
   | (with_reducible exact ih2 _ _ _ _ _ _)
   | (with_reducible exact spec_l09In.mono _ _ _)
   | (with_reducible exact spec_l23Put.mono _ _ _)
   | (with_reducible exact LeO.refl _)
   | (with_reducible exact LeO.none _)
   | (with_reducible refine LeO.ite ?_ ?_)
   | (with_reducible refine LeO.bind ?_ (fun _ => ?_))
   | exact ih0 _ _ _
   | exact ih1 _ _ _ _
   | exact ih2 _ _ _ _ _ _
   | exact spec_l09In.mono _ _ _
   | exact spec_l23Put.mono _ _ _
   | exact LeO.none _
   | refine LeO.ite ?_ ?_
   | refine LeO.bind ?_ (fun _ => ?_)
theorem spec_TalliesOf.mono : ∀ a0 k, LeO (spec_TalliesOf.f k a0) (spec_TalliesOf.f (k + 1) a0) := by
 intro a0 k
 obtain ⟨ih0, ih1, ih2⟩ := spec_TalliesOf.mono_l k
 unfold spec_TalliesOf.f
 repeat' first
  | (with_reducible exact ih0 _ _ _)
  | (with_reducible exact ih1 _ _ _ _)
  | (with_reducible exact ih2 _ _ _ _ _ _)
  | (with_reducible exact spec_l09In.mono _ _ _)
  | (with_reducible exact spec_l23Put.mono _ _ _)
  | (with_reducible exact LeO.refl _)
  | (with_reducible exact LeO.none _)
  | (with_reducible refine LeO.ite ?_ ?_)
  | (with_reducible refine LeO.bind ?_ (fun _ => ?_))
  | exact ih0 _ _ _
  | exact ih1 _ _ _ _
  | exact ih2 _ _ _ _ _ _
  | exact spec_l09In.mono _ _ _
  | exact spec_l23Put.mono _ _ _
  | exact LeO.none _
  | refine LeO.ite ?_ ?_
  | refine LeO.bind ?_ (fun _ => ?_)
set_option maxHeartbeats 8000000 in
set_option maxRecDepth 100000 in
theorem spec_TalliesOf.calls (k : Nat) (A0 : Option Addr) (c0 : Nat) (l0 : List (S131)) (r : List (S65)) (w : World) (hr0 : Kd.C k131 w A0 l0.length l0) (hc0 : l0.length ≤ c0) (h : spec_TalliesOf.f k l0 = some r) :
 Calls Try.prog 49 #[.slice A0 l0.length c0] w fun e w' => ∃ v0_ : Value, e = .returned (v0_) ∧ Kd.R k65 65 w' w.heap.size (fun _ => True) v0_ r ∧ Below w.heap.size w w' := by
 have hu129 := Try.underlying129
 have hu65 := Try.underlying65
 have HR0 := Aside0.mk hr0
 have HC0 := Aside0.mk hc0
 clear hr0 hc0
 have HB := Aside0.mk (Below.refl w.heap.size w)
 have H : (spec_TalliesOf.l0 k l0 (([] : List Int)) 0) = some r := h
 clear h
 obtain ⟨y920, hy920⟩ : ∃ y_ : List Int, y_ = (([] : List Int)) := ⟨_, rfl⟩
 replace H : (spec_TalliesOf.l0 k l0 y920 0) = some r := by first | (rw [hy920]; with_reducible exact H) | (have H2_ := (Option.bind_some _ _).symm.trans H; rw [hy920]; with_reducible exact H2_) | (have H2_ := (Option.bind_some _ _).symm.trans H; with_reducible exact H2_) | with_reducible exact H | (rw [hy920]; exact H) | exact H
 have Ny920 := Aside0.mk hy920
 clear hy920
 have H' := Aside0.mk H
 clear H
 go_enter Try.func49, Try.ntmps49
 go_wp2_with (first | ((with_reducible refine gate_dst (N := 10) rfl ?_); refine Kd.R_lit (Kd.int .i64) _ 3 ?hg (N := 10) ?hd (xs := ([] : List Int)) (inner := []) (ok := fun _ => True) (okp := fun _ => True) ?hr ?hp (fun _ hk => hk) trivial (Below.refl _ _) (Nat.le_refl _) (by simp) ?_; (case hd => rfl); (case hg => rfl); (case hr => first | (go_simp; done) | (go_simp; rfl)); (case hp => exact (Reps.none _ _)); intro v921 w2 ho3 hb hg_ hnew_; clear hg_ hnew_; (first | rw [← Ny920.out] at ho3 | (simp only [Int.reduceToNat] at ho3; rw [← Ny920.out] at ho3)); have n0_ := Aside0.mk (Kd.R_lower ho3 (below_size bl_)); have n1_ := Aside0.mk (below_step bl_ hb); clear HB; have HO922 := n0_; have HB := n1_; clear n0_ n1_; clear hb ho3))
 repeat (go_quiet (first | ((with_reducible refine gate_dst (N := 10) rfl ?_); refine Kd.R_lit (Kd.int .i64) _ 3 ?hg (N := 10) ?hd (xs := ([] : List Int)) (inner := []) (ok := fun _ => True) (okp := fun _ => True) ?hr ?hp (fun _ hk => hk) trivial (Below.refl _ _) (Nat.le_refl _) (by simp) ?_; (case hd => rfl); (case hg => rfl); (case hr => first | (go_simp; done) | (go_simp; rfl)); (case hp => exact (Reps.none _ _)); intro v921 w2 ho3 hb hg_ hnew_; clear hg_ hnew_; (first | rw [← Ny920.out] at ho3 | (simp only [Int.reduceToNat] at ho3; rw [← Ny920.out] at ho3)); have n0_ := Aside0.mk (Kd.R_lower ho3 (below_size bl_)); have n1_ := Aside0.mk (below_step bl_ hb); clear HB; have HO922 := n0_; have HB := n1_; clear n0_ n1_; clear hb ho3)); try go_wp2_with (first | ((with_reducible refine gate_dst (N := 10) rfl ?_); refine Kd.R_lit (Kd.int .i64) _ 3 ?hg (N := 10) ?hd (xs := ([] : List Int)) (inner := []) (ok := fun _ => True) (okp := fun _ => True) ?hr ?hp (fun _ hk => hk) trivial (Below.refl _ _) (Nat.le_refl _) (by simp) ?_; (case hd => rfl); (case hg => rfl); (case hr => first | (go_simp; done) | (go_simp; rfl)); (case hp => exact (Reps.none _ _)); intro v921 w2 ho3 hb hg_ hnew_; clear hg_ hnew_; (first | rw [← Ny920.out] at ho3 | (simp only [Int.reduceToNat] at ho3; rw [← Ny920.out] at ho3)); have n0_ := Aside0.mk (Kd.R_lower ho3 (below_size bl_)); have n1_ := Aside0.mk (below_step bl_ hb); clear HB; have HO922 := n0_; have HB := n1_; clear n0_ n1_; clear hb ho3)))
 go_loopg [3, 4] k (fun kq v3 v4 w' => ∃ (x3_1 : List Int) (x4_1 : Int), v4 = .int .i64 x4_1 ∧ Aside0 (spec_TalliesOf.l0 kq l0 x3_1 x4_1 = some r) ∧ Aside0 (kq ≤ k) ∧ Aside0 (Kd.R (Kd.int .i64) 3 w' w.heap.size (fun _ => True) v3 x3_1) ∧ Aside0 (Below w.heap.size w w'))
 case atStart => exact ⟨(y920), (0), (by first | rfl | (simp; done) | (simp [*]; done)), H', ⟨Nat.le_refl _⟩, ⟨ra_ HO922.out⟩, ⟨bl_⟩⟩
 case round =>
  clear H'
  try clear p2
  obtain ⟨x3_1, x4_1, rfl, HA, HK1, HO_3, HB⟩ := hrel
  cases gk with
  | zero => exact absurd HA.out (by simp [spec_TalliesOf.l0])
  | succ k1 =>
   have H := HA.out
   clear HA
   simp only [spec_TalliesOf.l0] at H
   by_cases c4 : x4_1 < (l0.length : Int)
   ·rw [if_pos c4] at H
    have c4b0 : decide (x4_1 < (l0.length : Int)) = true := decide_eq_true c4
    clear c4
    by_cases c5 : 0 ≤ x4_1
    ·rw [if_pos c5] at H
     have c5b0 : decide (0 ≤ x4_1) = true := decide_eq_true c5
     clear c5
     by_cases c6 : ((rd_T131 l0 x4_1).f2.f0) = 1
     ·rw [if_pos c6] at H
      have c6b0 : (((rd_T131 l0 x4_1).f2.f0) == 1) = true := beq_iff_eq.mpr c6
      have c6b1 : (((rd_T131 l0 x4_1).f2.f0) != 1) = false := bne_eq_false_iff_eq.mpr c6
      clear c6
      replace H := Option.bind_eq_some_iff.mp H
      obtain ⟨t925, A70, H⟩ := H
      try dsimp only at H
      have A7 := Aside0.mk A70
      clear A70
      by_cases c8 : t925 = true
      ·subst c8
       rw [if_pos rfl] at H
       have H' := Aside0.mk H
       clear H
       have p923 : 0 ≤ (x4_1 : Int) := of_decide_eq_true as_
       have q923 : x4_1 < (l0.length : Int) := of_decide_eq_true as_
       obtain ⟨ad923, e923, hx923_0, hx923_1, hx923_2, hx923_3, hx923_4, hx923_5⟩ := at_T131 HR0.out x4_1 p923 q923
       cases e923
       replace hx923_0 := (HB.out.cell (World.block_lt_of_cell? w _ hx923_0)).trans hx923_0
       replace hx923_1 := (HB.out.cell (World.block_lt_of_cell? w _ hx923_1)).trans hx923_1
       replace hx923_2 := (HB.out.cell (World.block_lt_of_cell? w _ hx923_2)).trans hx923_2
       replace hx923_3 := (HB.out.cell (World.block_lt_of_cell? w _ hx923_3)).trans hx923_3
       replace hx923_4 := (HB.out.cell (World.block_lt_of_cell? w _ hx923_4)).trans hx923_4
       replace hx923_5 := (HB.out.cell (World.block_lt_of_cell? w _ hx923_5)).trans hx923_5
       replace p923 := eq_true p923
       replace q923 := eq_true q923
       go_wp2_with (first | ((with_reducible refine gate_dst (N := 5) rfl ?_); refine box_event ?hg (N := 5) ?hd (cs := #[.int .i64 0, .int .i64 0, .int .i64 0, .int .i64 0]) (t := 129) ?hr ?_; (case hd => rfl); (case hg => rfl); (case hr => first | (go_simp; done) | (go_simp; rfl)); intro gb924 hg w9 hbox hb; have n0_ := Aside0.mk (Kd.R_below (ra_ HO_3.out) hb); have n1_ := Aside0.mk (below_step bl_ hb); have n2_ := Aside0.mk (hbox); have n3_ := Aside0.mk ((hz_ : w.heap.size ≤ gb924)); have n4_ := Aside0.mk ((hz_ : w.heap.size ≤ gb924)); clear HO_3; clear HB; have HO_3 := n0_; have HB := n1_; have BK924 := n2_; have GW924 := n3_; have GE924 := n4_; clear n0_ n1_ n2_ n3_ n4_; clear hb hbox hg; have hcz10_0 : w9.cell? ⟨gb924, 0, none⟩ = some (.int .i64 0) := (blk_cell BK924.out 0).trans rfl; have hcz10_1 : w9.cell? ⟨gb924, 1, none⟩ = some (.int .i64 0) := (blk_cell BK924.out 1).trans rfl; have hcz10_2 : w9.cell? ⟨gb924, 2, none⟩ = some (.int .i64 0) := (blk_cell BK924.out 2).trans rfl; have hcz10_3 : w9.cell? ⟨gb924, 3, none⟩ = some (.int .i64 0) := (blk_cell BK924.out 3).trans rfl; have hfz10_0 := blk_frozen BK924.out 0; have hfz10_1 := blk_frozen BK924.out 1; have hfz10_2 := blk_frozen BK924.out 2; have hfz10_3 := blk_frozen BK924.out 3; obtain ⟨Ao11, co11, eo11⟩ := Kd.R_slice HO_3.out; subst eo11) | (go_at_call 126; (with_reducible refine (spec_l09In.calls k1 _ _ x3_1 ((rd_T131 l0 x4_1).f2.f1) true _ ?side1 ?side2 A7.out).mono ?_); (case side1 => refine (Kd.R_reads' (e := 3) (base := w.heap.size) (ok := fun k_ => True) (n := x3_1.length) (c := co11) ?_).2.2; exact (by (with_reducible repeat (first | apply Kd.R_alloc | apply Kd.R_drewN | apply Kd.R_drew)); exact (Kd.R_mono (Kd.R_far (p := ⟨gb924, 3, none⟩) (Kd.R_far (p := ⟨gb924, 2, none⟩) (Kd.R_far (p := ⟨gb924, 1, none⟩) (Kd.R_far (p := ⟨gb924, 0, none⟩) (Kd.R_types HO_3.out BK924.out (by decide)) (fun _ hk => hk.2) (.int .i64 ((rd_T131 l0 x4_1).f2.f0))) (fun _ hk => hk.2) (.int .i64 ((rd_T131 l0 x4_1).f2.f1))) (fun _ hk => hk.2) (.int .i64 ((rd_T131 l0 x4_1).f2.f2))) (fun _ hk => hk.2) (.int .i64 ((rd_T131 l0 x4_1).f2.f3))) (fun _ h_ => h_.1)))); (case side2 => exact (Kd.R_reads' HO_3.out).2.1); rintro e w' ⟨rfl, ⟨nd, rfl⟩⟩; (try first | exact ⟨rfl, _, World.drewN_drewN _ _ _⟩ | exact ⟨rfl, _, Eq.trans (World.drewN_drewN _ _ _) (congrArg (World.drewN _) (Nat.add_assoc _ _ _))⟩)))
       repeat (go_quiet (first | ((with_reducible refine gate_dst (N := 5) rfl ?_); refine box_event ?hg (N := 5) ?hd (cs := #[.int .i64 0, .int .i64 0, .int .i64 0, .int .i64 0]) (t := 129) ?hr ?_; (case hd => rfl); (case hg => rfl); (case hr => first | (go_simp; done) | (go_simp; rfl)); intro gb924 hg w9 hbox hb; have n0_ := Aside0.mk (Kd.R_below (ra_ HO_3.out) hb); have n1_ := Aside0.mk (below_step bl_ hb); have n2_ := Aside0.mk (hbox); have n3_ := Aside0.mk ((hz_ : w.heap.size ≤ gb924)); have n4_ := Aside0.mk ((hz_ : w.heap.size ≤ gb924)); clear HO_3; clear HB; have HO_3 := n0_; have HB := n1_; have BK924 := n2_; have GW924 := n3_; have GE924 := n4_; clear n0_ n1_ n2_ n3_ n4_; clear hb hbox hg; have hcz10_0 : w9.cell? ⟨gb924, 0, none⟩ = some (.int .i64 0) := (blk_cell BK924.out 0).trans rfl; have hcz10_1 : w9.cell? ⟨gb924, 1, none⟩ = some (.int .i64 0) := (blk_cell BK924.out 1).trans rfl; have hcz10_2 : w9.cell? ⟨gb924, 2, none⟩ = some (.int .i64 0) := (blk_cell BK924.out 2).trans rfl; have hcz10_3 : w9.cell? ⟨gb924, 3, none⟩ = some (.int .i64 0) := (blk_cell BK924.out 3).trans rfl; have hfz10_0 := blk_frozen BK924.out 0; have hfz10_1 := blk_frozen BK924.out 1; have hfz10_2 := blk_frozen BK924.out 2; have hfz10_3 := blk_frozen BK924.out 3; obtain ⟨Ao11, co11, eo11⟩ := Kd.R_slice HO_3.out; subst eo11) | (go_at_call 126; (with_reducible refine (spec_l09In.calls k1 _ _ x3_1 ((rd_T131 l0 x4_1).f2.f1) true _ ?side1 ?side2 A7.out).mono ?_); (case side1 => refine (Kd.R_reads' (e := 3) (base := w.heap.size) (ok := fun k_ => True) (n := x3_1.length) (c := co11) ?_).2.2; exact (by (with_reducible repeat (first | apply Kd.R_alloc | apply Kd.R_drewN | apply Kd.R_drew)); exact (Kd.R_mono (Kd.R_far (p := ⟨gb924, 3, none⟩) (Kd.R_far (p := ⟨gb924, 2, none⟩) (Kd.R_far (p := ⟨gb924, 1, none⟩) (Kd.R_far (p := ⟨gb924, 0, none⟩) (Kd.R_types HO_3.out BK924.out (by decide)) (fun _ hk => hk.2) (.int .i64 ((rd_T131 l0 x4_1).f2.f0))) (fun _ hk => hk.2) (.int .i64 ((rd_T131 l0 x4_1).f2.f1))) (fun _ hk => hk.2) (.int .i64 ((rd_T131 l0 x4_1).f2.f2))) (fun _ hk => hk.2) (.int .i64 ((rd_T131 l0 x4_1).f2.f3))) (fun _ h_ => h_.1)))); (case side2 => exact (Kd.R_reads' HO_3.out).2.1); rintro e w' ⟨rfl, ⟨nd, rfl⟩⟩; (try first | exact ⟨rfl, _, World.drewN_drewN _ _ _⟩ | exact ⟨rfl, _, Eq.trans (World.drewN_drewN _ _ _) (congrArg (World.drewN _) (Nat.add_assoc _ _ _))⟩))); try go_wp2_with (first | ((with_reducible refine gate_dst (N := 5) rfl ?_); refine box_event ?hg (N := 5) ?hd (cs := #[.int .i64 0, .int .i64 0, .int .i64 0, .int .i64 0]) (t := 129) ?hr ?_; (case hd => rfl); (case hg => rfl); (case hr => first | (go_simp; done) | (go_simp; rfl)); intro gb924 hg w9 hbox hb; have n0_ := Aside0.mk (Kd.R_below (ra_ HO_3.out) hb); have n1_ := Aside0.mk (below_step bl_ hb); have n2_ := Aside0.mk (hbox); have n3_ := Aside0.mk ((hz_ : w.heap.size ≤ gb924)); have n4_ := Aside0.mk ((hz_ : w.heap.size ≤ gb924)); clear HO_3; clear HB; have HO_3 := n0_; have HB := n1_; have BK924 := n2_; have GW924 := n3_; have GE924 := n4_; clear n0_ n1_ n2_ n3_ n4_; clear hb hbox hg; have hcz10_0 : w9.cell? ⟨gb924, 0, none⟩ = some (.int .i64 0) := (blk_cell BK924.out 0).trans rfl; have hcz10_1 : w9.cell? ⟨gb924, 1, none⟩ = some (.int .i64 0) := (blk_cell BK924.out 1).trans rfl; have hcz10_2 : w9.cell? ⟨gb924, 2, none⟩ = some (.int .i64 0) := (blk_cell BK924.out 2).trans rfl; have hcz10_3 : w9.cell? ⟨gb924, 3, none⟩ = some (.int .i64 0) := (blk_cell BK924.out 3).trans rfl; have hfz10_0 := blk_frozen BK924.out 0; have hfz10_1 := blk_frozen BK924.out 1; have hfz10_2 := blk_frozen BK924.out 2; have hfz10_3 := blk_frozen BK924.out 3; obtain ⟨Ao11, co11, eo11⟩ := Kd.R_slice HO_3.out; subst eo11) | (go_at_call 126; (with_reducible refine (spec_l09In.calls k1 _ _ x3_1 ((rd_T131 l0 x4_1).f2.f1) true _ ?side1 ?side2 A7.out).mono ?_); (case side1 => refine (Kd.R_reads' (e := 3) (base := w.heap.size) (ok := fun k_ => True) (n := x3_1.length) (c := co11) ?_).2.2; exact (by (with_reducible repeat (first | apply Kd.R_alloc | apply Kd.R_drewN | apply Kd.R_drew)); exact (Kd.R_mono (Kd.R_far (p := ⟨gb924, 3, none⟩) (Kd.R_far (p := ⟨gb924, 2, none⟩) (Kd.R_far (p := ⟨gb924, 1, none⟩) (Kd.R_far (p := ⟨gb924, 0, none⟩) (Kd.R_types HO_3.out BK924.out (by decide)) (fun _ hk => hk.2) (.int .i64 ((rd_T131 l0 x4_1).f2.f0))) (fun _ hk => hk.2) (.int .i64 ((rd_T131 l0 x4_1).f2.f1))) (fun _ hk => hk.2) (.int .i64 ((rd_T131 l0 x4_1).f2.f2))) (fun _ hk => hk.2) (.int .i64 ((rd_T131 l0 x4_1).f2.f3))) (fun _ h_ => h_.1)))); (case side2 => exact (Kd.R_reads' HO_3.out).2.1); rintro e w' ⟨rfl, ⟨nd, rfl⟩⟩; (try first | exact ⟨rfl, _, World.drewN_drewN _ _ _⟩ | exact ⟨rfl, _, Eq.trans (World.drewN_drewN _ _ _) (congrArg (World.drewN _) (Nat.add_assoc _ _ _))⟩))))
       go_roundg k1
       case measure => have := HK1.out; omega
       case rel => exact ⟨(x3_1), (wrap64 (x4_1 + 1)), (by first | rfl | (simp; done) | (simp [*]; done)), H', ⟨by have := HK1.out; omega⟩, ⟨by (with_reducible repeat (first | apply Kd.R_alloc | apply Kd.R_drewN | apply Kd.R_drew)); exact Kd.R_mono (Kd.R_far (p := ⟨gb924, 3, none⟩) (Kd.R_far (p := ⟨gb924, 2, none⟩) (Kd.R_far (p := ⟨gb924, 1, none⟩) (Kd.R_far (p := ⟨gb924, 0, none⟩) (Kd.R_types HO_3.out BK924.out (by decide)) (fun _ hk => hk.2) (.int .i64 ((rd_T131 l0 x4_1).f2.f0))) (fun _ hk => hk.2) (.int .i64 ((rd_T131 l0 x4_1).f2.f1))) (fun _ hk => hk.2) (.int .i64 ((rd_T131 l0 x4_1).f2.f2))) (fun _ hk => hk.2) (.int .i64 ((rd_T131 l0 x4_1).f2.f3))) (fun _ hk => trivial)⟩, ⟨bl_⟩⟩
      ·replace c8 := Bool.eq_false_iff.mpr c8
       subst c8
       rw [if_neg (show ¬ (false = true) by decide)] at H
       replace H := Option.bind_eq_some_iff.mp H
       obtain ⟨t926, A120, H⟩ := H
       try dsimp only at H
       have A12 := Aside0.mk A120
       clear A120
       have H' := Aside0.mk H
       clear H
       have p923 : 0 ≤ (x4_1 : Int) := of_decide_eq_true as_
       have q923 : x4_1 < (l0.length : Int) := of_decide_eq_true as_
       obtain ⟨ad923, e923, hx923_0, hx923_1, hx923_2, hx923_3, hx923_4, hx923_5⟩ := at_T131 HR0.out x4_1 p923 q923
       cases e923
       replace hx923_0 := (HB.out.cell (World.block_lt_of_cell? w _ hx923_0)).trans hx923_0
       replace hx923_1 := (HB.out.cell (World.block_lt_of_cell? w _ hx923_1)).trans hx923_1
       replace hx923_2 := (HB.out.cell (World.block_lt_of_cell? w _ hx923_2)).trans hx923_2
       replace hx923_3 := (HB.out.cell (World.block_lt_of_cell? w _ hx923_3)).trans hx923_3
       replace hx923_4 := (HB.out.cell (World.block_lt_of_cell? w _ hx923_4)).trans hx923_4
       replace hx923_5 := (HB.out.cell (World.block_lt_of_cell? w _ hx923_5)).trans hx923_5
       replace p923 := eq_true p923
       replace q923 := eq_true q923
       go_wp2_with (first | ((with_reducible refine gate_dst (N := 5) rfl ?_); refine box_event ?hg (N := 5) ?hd (cs := #[.int .i64 0, .int .i64 0, .int .i64 0, .int .i64 0]) (t := 129) ?hr ?_; (case hd => rfl); (case hg => rfl); (case hr => first | (go_simp; done) | (go_simp; rfl)); intro gb924 hg w13 hbox hb; have n0_ := Aside0.mk (Kd.R_below (ra_ HO_3.out) hb); have n1_ := Aside0.mk (below_step bl_ hb); have n2_ := Aside0.mk (hbox); have n3_ := Aside0.mk ((hz_ : w.heap.size ≤ gb924)); have n4_ := Aside0.mk ((hz_ : w.heap.size ≤ gb924)); clear HO_3; clear HB; have HO_3 := n0_; have HB := n1_; have BK924 := n2_; have GW924 := n3_; have GE924 := n4_; clear n0_ n1_ n2_ n3_ n4_; clear hb hbox hg; have hcz14_0 : w13.cell? ⟨gb924, 0, none⟩ = some (.int .i64 0) := (blk_cell BK924.out 0).trans rfl; have hcz14_1 : w13.cell? ⟨gb924, 1, none⟩ = some (.int .i64 0) := (blk_cell BK924.out 1).trans rfl; have hcz14_2 : w13.cell? ⟨gb924, 2, none⟩ = some (.int .i64 0) := (blk_cell BK924.out 2).trans rfl; have hcz14_3 : w13.cell? ⟨gb924, 3, none⟩ = some (.int .i64 0) := (blk_cell BK924.out 3).trans rfl; have hfz14_0 := blk_frozen BK924.out 0; have hfz14_1 := blk_frozen BK924.out 1; have hfz14_2 := blk_frozen BK924.out 2; have hfz14_3 := blk_frozen BK924.out 3; obtain ⟨Ao15, co15, eo15⟩ := Kd.R_slice HO_3.out; subst eo15) | (go_at_call 126; (with_reducible refine (spec_l09In.calls k1 _ _ x3_1 ((rd_T131 l0 x4_1).f2.f1) false _ ?side1 ?side2 A7.out).mono ?_); (case side1 => refine (Kd.R_reads' (e := 3) (base := w.heap.size) (ok := fun k_ => True) (n := x3_1.length) (c := co15) ?_).2.2; exact (by (with_reducible repeat (first | apply Kd.R_alloc | apply Kd.R_drewN | apply Kd.R_drew)); exact (Kd.R_mono (Kd.R_far (p := ⟨gb924, 3, none⟩) (Kd.R_far (p := ⟨gb924, 2, none⟩) (Kd.R_far (p := ⟨gb924, 1, none⟩) (Kd.R_far (p := ⟨gb924, 0, none⟩) (Kd.R_types HO_3.out BK924.out (by decide)) (fun _ hk => hk.2) (.int .i64 ((rd_T131 l0 x4_1).f2.f0))) (fun _ hk => hk.2) (.int .i64 ((rd_T131 l0 x4_1).f2.f1))) (fun _ hk => hk.2) (.int .i64 ((rd_T131 l0 x4_1).f2.f2))) (fun _ hk => hk.2) (.int .i64 ((rd_T131 l0 x4_1).f2.f3))) (fun _ h_ => h_.1)))); (case side2 => exact (Kd.R_reads' HO_3.out).2.1); rintro e w' ⟨rfl, ⟨nd, rfl⟩⟩; (try first | exact ⟨rfl, _, World.drewN_drewN _ _ _⟩ | exact ⟨rfl, _, Eq.trans (World.drewN_drewN _ _ _) (congrArg (World.drewN _) (Nat.add_assoc _ _ _))⟩)) | (go_at_call 127; (with_reducible refine (spec_l23Put.calls k1 _ _ x3_1 ((rd_T131 l0 x4_1).f2.f1) t926 _ ?side1 ?side2 A12.out).mono ?_); (case side1 => refine (Kd.R_reads' (e := 3) (base := w.heap.size) (ok := fun k_ => True) (n := x3_1.length) (c := co15) ?_).2.2; exact (by (with_reducible repeat (first | apply Kd.R_alloc | apply Kd.R_drewN | apply Kd.R_drew)); exact (Kd.R_mono (Kd.R_far (p := ⟨gb924, 3, none⟩) (Kd.R_far (p := ⟨gb924, 2, none⟩) (Kd.R_far (p := ⟨gb924, 1, none⟩) (Kd.R_far (p := ⟨gb924, 0, none⟩) (Kd.R_types HO_3.out BK924.out (by decide)) (fun _ hk => hk.2) (.int .i64 ((rd_T131 l0 x4_1).f2.f0))) (fun _ hk => hk.2) (.int .i64 ((rd_T131 l0 x4_1).f2.f1))) (fun _ hk => hk.2) (.int .i64 ((rd_T131 l0 x4_1).f2.f2))) (fun _ hk => hk.2) (.int .i64 ((rd_T131 l0 x4_1).f2.f3))) (fun _ h_ => h_.1)))); (case side2 => exact (Kd.R_reads' HO_3.out).2.1); rintro e w16 ⟨v927, rfl, ho0, hb⟩; have n0_ := Aside0.mk (Kd.R_elder' (by (with_reducible repeat (first | apply Kd.R_alloc | apply Kd.R_drewN | apply Kd.R_drew)); exact (Kd.R_mono (Kd.R_far (p := ⟨gb924, 3, none⟩) (Kd.R_far (p := ⟨gb924, 2, none⟩) (Kd.R_far (p := ⟨gb924, 1, none⟩) (Kd.R_far (p := ⟨gb924, 0, none⟩) (Kd.R_types HO_3.out BK924.out (by decide)) (fun _ hk => hk.2) (.int .i64 ((rd_T131 l0 x4_1).f2.f0))) (fun _ hk => hk.2) (.int .i64 ((rd_T131 l0 x4_1).f2.f1))) (fun _ hk => hk.2) (.int .i64 ((rd_T131 l0 x4_1).f2.f2))) (fun _ hk => hk.2) (.int .i64 ((rd_T131 l0 x4_1).f2.f3))) (fun _ h_ => h_.1))) (Kd.R_base ho0) hb); have n1_ := Aside0.mk (Kd.R_lower (Kd.R_new' ho0 (Kd.R_lt (by (with_reducible repeat (first | apply Kd.R_alloc | apply Kd.R_drewN | apply Kd.R_drew)); exact (Kd.R_mono (Kd.R_far (p := ⟨gb924, 3, none⟩) (Kd.R_far (p := ⟨gb924, 2, none⟩) (Kd.R_far (p := ⟨gb924, 1, none⟩) (Kd.R_far (p := ⟨gb924, 0, none⟩) (Kd.R_types HO_3.out BK924.out (by decide)) (fun _ hk => hk.2) (.int .i64 ((rd_T131 l0 x4_1).f2.f0))) (fun _ hk => hk.2) (.int .i64 ((rd_T131 l0 x4_1).f2.f1))) (fun _ hk => hk.2) (.int .i64 ((rd_T131 l0 x4_1).f2.f2))) (fun _ hk => hk.2) (.int .i64 ((rd_T131 l0 x4_1).f2.f3))) (fun _ h_ => h_.1))))) (below_size bl_)); have n2_ := Aside0.mk (blk_below (g := gb924) (o := .cells #[.int .i64 ((rd_T131 l0 x4_1).f2.f0), .int .i64 ((rd_T131 l0 x4_1).f2.f1), .int .i64 ((rd_T131 l0 x4_1).f2.f2), .int .i64 ((rd_T131 l0 x4_1).f2.f3)] 129 (0, 0)) (by (with_reducible repeat (first | refine blk_drewN ?_ _ | refine blk_drew ?_ | refine blk_alloc ?_ _)); refine blk_put (cs := #[.int .i64 ((rd_T131 l0 x4_1).f2.f0), .int .i64 ((rd_T131 l0 x4_1).f2.f1), .int .i64 ((rd_T131 l0 x4_1).f2.f2), .int .i64 0]) ?_ 3 _ rfl; (with_reducible repeat (first | refine blk_drewN ?_ _ | refine blk_drew ?_ | refine blk_alloc ?_ _)); refine blk_put (cs := #[.int .i64 ((rd_T131 l0 x4_1).f2.f0), .int .i64 ((rd_T131 l0 x4_1).f2.f1), .int .i64 0, .int .i64 0]) ?_ 2 _ rfl; (with_reducible repeat (first | refine blk_drewN ?_ _ | refine blk_drew ?_ | refine blk_alloc ?_ _)); refine blk_put (cs := #[.int .i64 ((rd_T131 l0 x4_1).f2.f0), .int .i64 0, .int .i64 0, .int .i64 0]) ?_ 1 _ rfl; (with_reducible repeat (first | refine blk_drewN ?_ _ | refine blk_drew ?_ | refine blk_alloc ?_ _)); refine blk_put (cs := #[.int .i64 0, .int .i64 0, .int .i64 0, .int .i64 0]) ?_ 0 _ rfl; (with_reducible repeat (first | refine blk_drewN ?_ _ | refine blk_drew ?_ | refine blk_alloc ?_ _)); exact BK924.out) hb); have n3_ := Aside0.mk (below_step bl_ hb); clear HO_3; clear BK924; clear HB; have HO_3 := n0_; have HO928 := n1_; have BK924 := n2_; have HB := n3_; clear n0_ n1_ n2_ n3_; (try clear hb); (try clear hb2); (try clear hk); (try clear hi); (try clear ho0)))
       repeat (go_quiet (first | ((with_reducible refine gate_dst (N := 5) rfl ?_); refine box_event ?hg (N := 5) ?hd (cs := #[.int .i64 0, .int .i64 0, .int .i64 0, .int .i64 0]) (t := 129) ?hr ?_; (case hd => rfl); (case hg => rfl); (case hr => first | (go_simp; done) | (go_simp; rfl)); intro gb924 hg w13 hbox hb; have n0_ := Aside0.mk (Kd.R_below (ra_ HO_3.out) hb); have n1_ := Aside0.mk (below_step bl_ hb); have n2_ := Aside0.mk (hbox); have n3_ := Aside0.mk ((hz_ : w.heap.size ≤ gb924)); have n4_ := Aside0.mk ((hz_ : w.heap.size ≤ gb924)); clear HO_3; clear HB; have HO_3 := n0_; have HB := n1_; have BK924 := n2_; have GW924 := n3_; have GE924 := n4_; clear n0_ n1_ n2_ n3_ n4_; clear hb hbox hg; have hcz14_0 : w13.cell? ⟨gb924, 0, none⟩ = some (.int .i64 0) := (blk_cell BK924.out 0).trans rfl; have hcz14_1 : w13.cell? ⟨gb924, 1, none⟩ = some (.int .i64 0) := (blk_cell BK924.out 1).trans rfl; have hcz14_2 : w13.cell? ⟨gb924, 2, none⟩ = some (.int .i64 0) := (blk_cell BK924.out 2).trans rfl; have hcz14_3 : w13.cell? ⟨gb924, 3, none⟩ = some (.int .i64 0) := (blk_cell BK924.out 3).trans rfl; have hfz14_0 := blk_frozen BK924.out 0; have hfz14_1 := blk_frozen BK924.out 1; have hfz14_2 := blk_frozen BK924.out 2; have hfz14_3 := blk_frozen BK924.out 3; obtain ⟨Ao15, co15, eo15⟩ := Kd.R_slice HO_3.out; subst eo15) | (go_at_call 126; (with_reducible refine (spec_l09In.calls k1 _ _ x3_1 ((rd_T131 l0 x4_1).f2.f1) false _ ?side1 ?side2 A7.out).mono ?_); (case side1 => refine (Kd.R_reads' (e := 3) (base := w.heap.size) (ok := fun k_ => True) (n := x3_1.length) (c := co15) ?_).2.2; exact (by (with_reducible repeat (first | apply Kd.R_alloc | apply Kd.R_drewN | apply Kd.R_drew)); exact (Kd.R_mono (Kd.R_far (p := ⟨gb924, 3, none⟩) (Kd.R_far (p := ⟨gb924, 2, none⟩) (Kd.R_far (p := ⟨gb924, 1, none⟩) (Kd.R_far (p := ⟨gb924, 0, none⟩) (Kd.R_types HO_3.out BK924.out (by decide)) (fun _ hk => hk.2) (.int .i64 ((rd_T131 l0 x4_1).f2.f0))) (fun _ hk => hk.2) (.int .i64 ((rd_T131 l0 x4_1).f2.f1))) (fun _ hk => hk.2) (.int .i64 ((rd_T131 l0 x4_1).f2.f2))) (fun _ hk => hk.2) (.int .i64 ((rd_T131 l0 x4_1).f2.f3))) (fun _ h_ => h_.1)))); (case side2 => exact (Kd.R_reads' HO_3.out).2.1); rintro e w' ⟨rfl, ⟨nd, rfl⟩⟩; (try first | exact ⟨rfl, _, World.drewN_drewN _ _ _⟩ | exact ⟨rfl, _, Eq.trans (World.drewN_drewN _ _ _) (congrArg (World.drewN _) (Nat.add_assoc _ _ _))⟩)) | (go_at_call 127; (with_reducible refine (spec_l23Put.calls k1 _ _ x3_1 ((rd_T131 l0 x4_1).f2.f1) t926 _ ?side1 ?side2 A12.out).mono ?_); (case side1 => refine (Kd.R_reads' (e := 3) (base := w.heap.size) (ok := fun k_ => True) (n := x3_1.length) (c := co15) ?_).2.2; exact (by (with_reducible repeat (first | apply Kd.R_alloc | apply Kd.R_drewN | apply Kd.R_drew)); exact (Kd.R_mono (Kd.R_far (p := ⟨gb924, 3, none⟩) (Kd.R_far (p := ⟨gb924, 2, none⟩) (Kd.R_far (p := ⟨gb924, 1, none⟩) (Kd.R_far (p := ⟨gb924, 0, none⟩) (Kd.R_types HO_3.out BK924.out (by decide)) (fun _ hk => hk.2) (.int .i64 ((rd_T131 l0 x4_1).f2.f0))) (fun _ hk => hk.2) (.int .i64 ((rd_T131 l0 x4_1).f2.f1))) (fun _ hk => hk.2) (.int .i64 ((rd_T131 l0 x4_1).f2.f2))) (fun _ hk => hk.2) (.int .i64 ((rd_T131 l0 x4_1).f2.f3))) (fun _ h_ => h_.1)))); (case side2 => exact (Kd.R_reads' HO_3.out).2.1); rintro e w16 ⟨v927, rfl, ho0, hb⟩; have n0_ := Aside0.mk (Kd.R_elder' (by (with_reducible repeat (first | apply Kd.R_alloc | apply Kd.R_drewN | apply Kd.R_drew)); exact (Kd.R_mono (Kd.R_far (p := ⟨gb924, 3, none⟩) (Kd.R_far (p := ⟨gb924, 2, none⟩) (Kd.R_far (p := ⟨gb924, 1, none⟩) (Kd.R_far (p := ⟨gb924, 0, none⟩) (Kd.R_types HO_3.out BK924.out (by decide)) (fun _ hk => hk.2) (.int .i64 ((rd_T131 l0 x4_1).f2.f0))) (fun _ hk => hk.2) (.int .i64 ((rd_T131 l0 x4_1).f2.f1))) (fun _ hk => hk.2) (.int .i64 ((rd_T131 l0 x4_1).f2.f2))) (fun _ hk => hk.2) (.int .i64 ((rd_T131 l0 x4_1).f2.f3))) (fun _ h_ => h_.1))) (Kd.R_base ho0) hb); have n1_ := Aside0.mk (Kd.R_lower (Kd.R_new' ho0 (Kd.R_lt (by (with_reducible repeat (first | apply Kd.R_alloc | apply Kd.R_drewN | apply Kd.R_drew)); exact (Kd.R_mono (Kd.R_far (p := ⟨gb924, 3, none⟩) (Kd.R_far (p := ⟨gb924, 2, none⟩) (Kd.R_far (p := ⟨gb924, 1, none⟩) (Kd.R_far (p := ⟨gb924, 0, none⟩) (Kd.R_types HO_3.out BK924.out (by decide)) (fun _ hk => hk.2) (.int .i64 ((rd_T131 l0 x4_1).f2.f0))) (fun _ hk => hk.2) (.int .i64 ((rd_T131 l0 x4_1).f2.f1))) (fun _ hk => hk.2) (.int .i64 ((rd_T131 l0 x4_1).f2.f2))) (fun _ hk => hk.2) (.int .i64 ((rd_T131 l0 x4_1).f2.f3))) (fun _ h_ => h_.1))))) (below_size bl_)); have n2_ := Aside0.mk (blk_below (g := gb924) (o := .cells #[.int .i64 ((rd_T131 l0 x4_1).f2.f0), .int .i64 ((rd_T131 l0 x4_1).f2.f1), .int .i64 ((rd_T131 l0 x4_1).f2.f2), .int .i64 ((rd_T131 l0 x4_1).f2.f3)] 129 (0, 0)) (by (with_reducible repeat (first | refine blk_drewN ?_ _ | refine blk_drew ?_ | refine blk_alloc ?_ _)); refine blk_put (cs := #[.int .i64 ((rd_T131 l0 x4_1).f2.f0), .int .i64 ((rd_T131 l0 x4_1).f2.f1), .int .i64 ((rd_T131 l0 x4_1).f2.f2), .int .i64 0]) ?_ 3 _ rfl; (with_reducible repeat (first | refine blk_drewN ?_ _ | refine blk_drew ?_ | refine blk_alloc ?_ _)); refine blk_put (cs := #[.int .i64 ((rd_T131 l0 x4_1).f2.f0), .int .i64 ((rd_T131 l0 x4_1).f2.f1), .int .i64 0, .int .i64 0]) ?_ 2 _ rfl; (with_reducible repeat (first | refine blk_drewN ?_ _ | refine blk_drew ?_ | refine blk_alloc ?_ _)); refine blk_put (cs := #[.int .i64 ((rd_T131 l0 x4_1).f2.f0), .int .i64 0, .int .i64 0, .int .i64 0]) ?_ 1 _ rfl; (with_reducible repeat (first | refine blk_drewN ?_ _ | refine blk_drew ?_ | refine blk_alloc ?_ _)); refine blk_put (cs := #[.int .i64 0, .int .i64 0, .int .i64 0, .int .i64 0]) ?_ 0 _ rfl; (with_reducible repeat (first | refine blk_drewN ?_ _ | refine blk_drew ?_ | refine blk_alloc ?_ _)); exact BK924.out) hb); have n3_ := Aside0.mk (below_step bl_ hb); clear HO_3; clear BK924; clear HB; have HO_3 := n0_; have HO928 := n1_; have BK924 := n2_; have HB := n3_; clear n0_ n1_ n2_ n3_; (try clear hb); (try clear hb2); (try clear hk); (try clear hi); (try clear ho0))); try go_wp2_with (first | ((with_reducible refine gate_dst (N := 5) rfl ?_); refine box_event ?hg (N := 5) ?hd (cs := #[.int .i64 0, .int .i64 0, .int .i64 0, .int .i64 0]) (t := 129) ?hr ?_; (case hd => rfl); (case hg => rfl); (case hr => first | (go_simp; done) | (go_simp; rfl)); intro gb924 hg w13 hbox hb; have n0_ := Aside0.mk (Kd.R_below (ra_ HO_3.out) hb); have n1_ := Aside0.mk (below_step bl_ hb); have n2_ := Aside0.mk (hbox); have n3_ := Aside0.mk ((hz_ : w.heap.size ≤ gb924)); have n4_ := Aside0.mk ((hz_ : w.heap.size ≤ gb924)); clear HO_3; clear HB; have HO_3 := n0_; have HB := n1_; have BK924 := n2_; have GW924 := n3_; have GE924 := n4_; clear n0_ n1_ n2_ n3_ n4_; clear hb hbox hg; have hcz14_0 : w13.cell? ⟨gb924, 0, none⟩ = some (.int .i64 0) := (blk_cell BK924.out 0).trans rfl; have hcz14_1 : w13.cell? ⟨gb924, 1, none⟩ = some (.int .i64 0) := (blk_cell BK924.out 1).trans rfl; have hcz14_2 : w13.cell? ⟨gb924, 2, none⟩ = some (.int .i64 0) := (blk_cell BK924.out 2).trans rfl; have hcz14_3 : w13.cell? ⟨gb924, 3, none⟩ = some (.int .i64 0) := (blk_cell BK924.out 3).trans rfl; have hfz14_0 := blk_frozen BK924.out 0; have hfz14_1 := blk_frozen BK924.out 1; have hfz14_2 := blk_frozen BK924.out 2; have hfz14_3 := blk_frozen BK924.out 3; obtain ⟨Ao15, co15, eo15⟩ := Kd.R_slice HO_3.out; subst eo15) | (go_at_call 126; (with_reducible refine (spec_l09In.calls k1 _ _ x3_1 ((rd_T131 l0 x4_1).f2.f1) false _ ?side1 ?side2 A7.out).mono ?_); (case side1 => refine (Kd.R_reads' (e := 3) (base := w.heap.size) (ok := fun k_ => True) (n := x3_1.length) (c := co15) ?_).2.2; exact (by (with_reducible repeat (first | apply Kd.R_alloc | apply Kd.R_drewN | apply Kd.R_drew)); exact (Kd.R_mono (Kd.R_far (p := ⟨gb924, 3, none⟩) (Kd.R_far (p := ⟨gb924, 2, none⟩) (Kd.R_far (p := ⟨gb924, 1, none⟩) (Kd.R_far (p := ⟨gb924, 0, none⟩) (Kd.R_types HO_3.out BK924.out (by decide)) (fun _ hk => hk.2) (.int .i64 ((rd_T131 l0 x4_1).f2.f0))) (fun _ hk => hk.2) (.int .i64 ((rd_T131 l0 x4_1).f2.f1))) (fun _ hk => hk.2) (.int .i64 ((rd_T131 l0 x4_1).f2.f2))) (fun _ hk => hk.2) (.int .i64 ((rd_T131 l0 x4_1).f2.f3))) (fun _ h_ => h_.1)))); (case side2 => exact (Kd.R_reads' HO_3.out).2.1); rintro e w' ⟨rfl, ⟨nd, rfl⟩⟩; (try first | exact ⟨rfl, _, World.drewN_drewN _ _ _⟩ | exact ⟨rfl, _, Eq.trans (World.drewN_drewN _ _ _) (congrArg (World.drewN _) (Nat.add_assoc _ _ _))⟩)) | (go_at_call 127; (with_reducible refine (spec_l23Put.calls k1 _ _ x3_1 ((rd_T131 l0 x4_1).f2.f1) t926 _ ?side1 ?side2 A12.out).mono ?_); (case side1 => refine (Kd.R_reads' (e := 3) (base := w.heap.size) (ok := fun k_ => True) (n := x3_1.length) (c := co15) ?_).2.2; exact (by (with_reducible repeat (first | apply Kd.R_alloc | apply Kd.R_drewN | apply Kd.R_drew)); exact (Kd.R_mono (Kd.R_far (p := ⟨gb924, 3, none⟩) (Kd.R_far (p := ⟨gb924, 2, none⟩) (Kd.R_far (p := ⟨gb924, 1, none⟩) (Kd.R_far (p := ⟨gb924, 0, none⟩) (Kd.R_types HO_3.out BK924.out (by decide)) (fun _ hk => hk.2) (.int .i64 ((rd_T131 l0 x4_1).f2.f0))) (fun _ hk => hk.2) (.int .i64 ((rd_T131 l0 x4_1).f2.f1))) (fun _ hk => hk.2) (.int .i64 ((rd_T131 l0 x4_1).f2.f2))) (fun _ hk => hk.2) (.int .i64 ((rd_T131 l0 x4_1).f2.f3))) (fun _ h_ => h_.1)))); (case side2 => exact (Kd.R_reads' HO_3.out).2.1); rintro e w16 ⟨v927, rfl, ho0, hb⟩; have n0_ := Aside0.mk (Kd.R_elder' (by (with_reducible repeat (first | apply Kd.R_alloc | apply Kd.R_drewN | apply Kd.R_drew)); exact (Kd.R_mono (Kd.R_far (p := ⟨gb924, 3, none⟩) (Kd.R_far (p := ⟨gb924, 2, none⟩) (Kd.R_far (p := ⟨gb924, 1, none⟩) (Kd.R_far (p := ⟨gb924, 0, none⟩) (Kd.R_types HO_3.out BK924.out (by decide)) (fun _ hk => hk.2) (.int .i64 ((rd_T131 l0 x4_1).f2.f0))) (fun _ hk => hk.2) (.int .i64 ((rd_T131 l0 x4_1).f2.f1))) (fun _ hk => hk.2) (.int .i64 ((rd_T131 l0 x4_1).f2.f2))) (fun _ hk => hk.2) (.int .i64 ((rd_T131 l0 x4_1).f2.f3))) (fun _ h_ => h_.1))) (Kd.R_base ho0) hb); have n1_ := Aside0.mk (Kd.R_lower (Kd.R_new' ho0 (Kd.R_lt (by (with_reducible repeat (first | apply Kd.R_alloc | apply Kd.R_drewN | apply Kd.R_drew)); exact (Kd.R_mono (Kd.R_far (p := ⟨gb924, 3, none⟩) (Kd.R_far (p := ⟨gb924, 2, none⟩) (Kd.R_far (p := ⟨gb924, 1, none⟩) (Kd.R_far (p := ⟨gb924, 0, none⟩) (Kd.R_types HO_3.out BK924.out (by decide)) (fun _ hk => hk.2) (.int .i64 ((rd_T131 l0 x4_1).f2.f0))) (fun _ hk => hk.2) (.int .i64 ((rd_T131 l0 x4_1).f2.f1))) (fun _ hk => hk.2) (.int .i64 ((rd_T131 l0 x4_1).f2.f2))) (fun _ hk => hk.2) (.int .i64 ((rd_T131 l0 x4_1).f2.f3))) (fun _ h_ => h_.1))))) (below_size bl_)); have n2_ := Aside0.mk (blk_below (g := gb924) (o := .cells #[.int .i64 ((rd_T131 l0 x4_1).f2.f0), .int .i64 ((rd_T131 l0 x4_1).f2.f1), .int .i64 ((rd_T131 l0 x4_1).f2.f2), .int .i64 ((rd_T131 l0 x4_1).f2.f3)] 129 (0, 0)) (by (with_reducible repeat (first | refine blk_drewN ?_ _ | refine blk_drew ?_ | refine blk_alloc ?_ _)); refine blk_put (cs := #[.int .i64 ((rd_T131 l0 x4_1).f2.f0), .int .i64 ((rd_T131 l0 x4_1).f2.f1), .int .i64 ((rd_T131 l0 x4_1).f2.f2), .int .i64 0]) ?_ 3 _ rfl; (with_reducible repeat (first | refine blk_drewN ?_ _ | refine blk_drew ?_ | refine blk_alloc ?_ _)); refine blk_put (cs := #[.int .i64 ((rd_T131 l0 x4_1).f2.f0), .int .i64 ((rd_T131 l0 x4_1).f2.f1), .int .i64 0, .int .i64 0]) ?_ 2 _ rfl; (with_reducible repeat (first | refine blk_drewN ?_ _ | refine blk_drew ?_ | refine blk_alloc ?_ _)); refine blk_put (cs := #[.int .i64 ((rd_T131 l0 x4_1).f2.f0), .int .i64 0, .int .i64 0, .int .i64 0]) ?_ 1 _ rfl; (with_reducible repeat (first | refine blk_drewN ?_ _ | refine blk_drew ?_ | refine blk_alloc ?_ _)); refine blk_put (cs := #[.int .i64 0, .int .i64 0, .int .i64 0, .int .i64 0]) ?_ 0 _ rfl; (with_reducible repeat (first | refine blk_drewN ?_ _ | refine blk_drew ?_ | refine blk_alloc ?_ _)); exact BK924.out) hb); have n3_ := Aside0.mk (below_step bl_ hb); clear HO_3; clear BK924; clear HB; have HO_3 := n0_; have HO928 := n1_; have BK924 := n2_; have HB := n3_; clear n0_ n1_ n2_ n3_; (try clear hb); (try clear hb2); (try clear hk); (try clear hi); (try clear ho0))))
       go_roundg k1
       case measure => have := HK1.out; omega
       case rel => exact ⟨(t926), (wrap64 (x4_1 + 1)), (by first | rfl | (simp; done) | (simp [*]; done)), H', ⟨by have := HK1.out; omega⟩, ⟨by (with_reducible repeat (first | apply Kd.R_alloc | apply Kd.R_drewN | apply Kd.R_drew)); exact Kd.R_mono HO928.out (fun _ hk => trivial)⟩, ⟨bl_⟩⟩
     ·rw [if_neg c6] at H
      have c6b0 : (((rd_T131 l0 x4_1).f2.f0) == 1) = false := beq_eq_false_iff_ne.mpr c6
      have c6b1 : (((rd_T131 l0 x4_1).f2.f0) != 1) = true := bne_iff_ne.mpr c6
      have H' := Aside0.mk H
      clear H
      have p923 : 0 ≤ (x4_1 : Int) := of_decide_eq_true as_
      have q923 : x4_1 < (l0.length : Int) := of_decide_eq_true as_
      obtain ⟨ad923, e923, hx923_0, hx923_1, hx923_2, hx923_3, hx923_4, hx923_5⟩ := at_T131 HR0.out x4_1 p923 q923
      cases e923
      replace hx923_0 := (HB.out.cell (World.block_lt_of_cell? w _ hx923_0)).trans hx923_0
      replace hx923_1 := (HB.out.cell (World.block_lt_of_cell? w _ hx923_1)).trans hx923_1
      replace hx923_2 := (HB.out.cell (World.block_lt_of_cell? w _ hx923_2)).trans hx923_2
      replace hx923_3 := (HB.out.cell (World.block_lt_of_cell? w _ hx923_3)).trans hx923_3
      replace hx923_4 := (HB.out.cell (World.block_lt_of_cell? w _ hx923_4)).trans hx923_4
      replace hx923_5 := (HB.out.cell (World.block_lt_of_cell? w _ hx923_5)).trans hx923_5
      replace p923 := eq_true p923
      replace q923 := eq_true q923
      go_wp2_with (first | ((with_reducible refine gate_dst (N := 5) rfl ?_); refine box_event ?hg (N := 5) ?hd (cs := #[.int .i64 0, .int .i64 0, .int .i64 0, .int .i64 0]) (t := 129) ?hr ?_; (case hd => rfl); (case hg => rfl); (case hr => first | (go_simp; done) | (go_simp; rfl)); intro gb924 hg w17 hbox hb; have n0_ := Aside0.mk (Kd.R_below (ra_ HO_3.out) hb); have n1_ := Aside0.mk (below_step bl_ hb); have n2_ := Aside0.mk (hbox); have n3_ := Aside0.mk ((hz_ : w.heap.size ≤ gb924)); have n4_ := Aside0.mk ((hz_ : w.heap.size ≤ gb924)); clear HO_3; clear HB; have HO_3 := n0_; have HB := n1_; have BK924 := n2_; have GW924 := n3_; have GE924 := n4_; clear n0_ n1_ n2_ n3_ n4_; clear hb hbox hg; have hcz18_0 : w17.cell? ⟨gb924, 0, none⟩ = some (.int .i64 0) := (blk_cell BK924.out 0).trans rfl; have hcz18_1 : w17.cell? ⟨gb924, 1, none⟩ = some (.int .i64 0) := (blk_cell BK924.out 1).trans rfl; have hcz18_2 : w17.cell? ⟨gb924, 2, none⟩ = some (.int .i64 0) := (blk_cell BK924.out 2).trans rfl; have hcz18_3 : w17.cell? ⟨gb924, 3, none⟩ = some (.int .i64 0) := (blk_cell BK924.out 3).trans rfl; have hfz18_0 := blk_frozen BK924.out 0; have hfz18_1 := blk_frozen BK924.out 1; have hfz18_2 := blk_frozen BK924.out 2; have hfz18_3 := blk_frozen BK924.out 3))
      repeat (go_quiet (first | ((with_reducible refine gate_dst (N := 5) rfl ?_); refine box_event ?hg (N := 5) ?hd (cs := #[.int .i64 0, .int .i64 0, .int .i64 0, .int .i64 0]) (t := 129) ?hr ?_; (case hd => rfl); (case hg => rfl); (case hr => first | (go_simp; done) | (go_simp; rfl)); intro gb924 hg w17 hbox hb; have n0_ := Aside0.mk (Kd.R_below (ra_ HO_3.out) hb); have n1_ := Aside0.mk (below_step bl_ hb); have n2_ := Aside0.mk (hbox); have n3_ := Aside0.mk ((hz_ : w.heap.size ≤ gb924)); have n4_ := Aside0.mk ((hz_ : w.heap.size ≤ gb924)); clear HO_3; clear HB; have HO_3 := n0_; have HB := n1_; have BK924 := n2_; have GW924 := n3_; have GE924 := n4_; clear n0_ n1_ n2_ n3_ n4_; clear hb hbox hg; have hcz18_0 : w17.cell? ⟨gb924, 0, none⟩ = some (.int .i64 0) := (blk_cell BK924.out 0).trans rfl; have hcz18_1 : w17.cell? ⟨gb924, 1, none⟩ = some (.int .i64 0) := (blk_cell BK924.out 1).trans rfl; have hcz18_2 : w17.cell? ⟨gb924, 2, none⟩ = some (.int .i64 0) := (blk_cell BK924.out 2).trans rfl; have hcz18_3 : w17.cell? ⟨gb924, 3, none⟩ = some (.int .i64 0) := (blk_cell BK924.out 3).trans rfl; have hfz18_0 := blk_frozen BK924.out 0; have hfz18_1 := blk_frozen BK924.out 1; have hfz18_2 := blk_frozen BK924.out 2; have hfz18_3 := blk_frozen BK924.out 3)); try go_wp2_with (first | ((with_reducible refine gate_dst (N := 5) rfl ?_); refine box_event ?hg (N := 5) ?hd (cs := #[.int .i64 0, .int .i64 0, .int .i64 0, .int .i64 0]) (t := 129) ?hr ?_; (case hd => rfl); (case hg => rfl); (case hr => first | (go_simp; done) | (go_simp; rfl)); intro gb924 hg w17 hbox hb; have n0_ := Aside0.mk (Kd.R_below (ra_ HO_3.out) hb); have n1_ := Aside0.mk (below_step bl_ hb); have n2_ := Aside0.mk (hbox); have n3_ := Aside0.mk ((hz_ : w.heap.size ≤ gb924)); have n4_ := Aside0.mk ((hz_ : w.heap.size ≤ gb924)); clear HO_3; clear HB; have HO_3 := n0_; have HB := n1_; have BK924 := n2_; have GW924 := n3_; have GE924 := n4_; clear n0_ n1_ n2_ n3_ n4_; clear hb hbox hg; have hcz18_0 : w17.cell? ⟨gb924, 0, none⟩ = some (.int .i64 0) := (blk_cell BK924.out 0).trans rfl; have hcz18_1 : w17.cell? ⟨gb924, 1, none⟩ = some (.int .i64 0) := (blk_cell BK924.out 1).trans rfl; have hcz18_2 : w17.cell? ⟨gb924, 2, none⟩ = some (.int .i64 0) := (blk_cell BK924.out 2).trans rfl; have hcz18_3 : w17.cell? ⟨gb924, 3, none⟩ = some (.int .i64 0) := (blk_cell BK924.out 3).trans rfl; have hfz18_0 := blk_frozen BK924.out 0; have hfz18_1 := blk_frozen BK924.out 1; have hfz18_2 := blk_frozen BK924.out 2; have hfz18_3 := blk_frozen BK924.out 3)))
      go_roundg k1
      case measure => have := HK1.out; omega
      case rel => exact ⟨(x3_1), (wrap64 (x4_1 + 1)), (by first | rfl | (simp; done) | (simp [*]; done)), H', ⟨by have := HK1.out; omega⟩, ⟨by (with_reducible repeat (first | apply Kd.R_alloc | apply Kd.R_drewN | apply Kd.R_drew)); exact Kd.R_mono (Kd.R_far (p := ⟨gb924, 3, none⟩) (Kd.R_far (p := ⟨gb924, 2, none⟩) (Kd.R_far (p := ⟨gb924, 1, none⟩) (Kd.R_far (p := ⟨gb924, 0, none⟩) (Kd.R_types HO_3.out BK924.out (by decide)) (fun _ hk => hk.2) (.int .i64 ((rd_T131 l0 x4_1).f2.f0))) (fun _ hk => hk.2) (.int .i64 ((rd_T131 l0 x4_1).f2.f1))) (fun _ hk => hk.2) (.int .i64 ((rd_T131 l0 x4_1).f2.f2))) (fun _ hk => hk.2) (.int .i64 ((rd_T131 l0 x4_1).f2.f3))) (fun _ hk => trivial)⟩, ⟨bl_⟩⟩
    ·rw [if_neg c5] at H
     exact absurd H (by simp)
   ·rw [if_neg c4] at H
    have c4b0 : decide (x4_1 < (l0.length : Int)) = false := decide_eq_false c4
    clear c4
    obtain ⟨y929, hy929⟩ : ∃ y_ : List (S65), y_ = (([] : List (S65))) := ⟨_, rfl⟩
    replace H : (spec_TalliesOf.l1 k1 l0 x3_1 y929 0) = some r := by first | (rw [hy929]; with_reducible exact H) | (have H2_ := (Option.bind_some _ _).symm.trans H; rw [hy929]; with_reducible exact H2_) | (have H2_ := (Option.bind_some _ _).symm.trans H; with_reducible exact H2_) | with_reducible exact H | (rw [hy929]; exact H) | exact H
    have Ny929 := Aside0.mk hy929
    clear hy929
    have H' := Aside0.mk H
    clear H
    go_wp2_with (first | ((with_reducible refine gate_dst (N := 36) rfl ?_); refine Kd.R_lit k65 _ 65 ?hg (N := 36) ?hd (xs := ([] : List (S65))) (inner := []) (ok := fun _ => True) (okp := fun _ => True) ?hr ?hp (fun _ hk => hk) trivial (Below.refl _ _) (Nat.le_refl _) (by simp) ?_; (case hd => rfl); (case hg => rfl); (case hr => first | (go_simp; done) | (go_simp; rfl)); (case hp => exact (Reps.none _ _)); intro v930 w19 ho20 hb hg_ hnew_; clear hg_ hnew_; (first | rw [← Ny929.out] at ho20 | (simp only [Int.reduceToNat] at ho20; rw [← Ny929.out] at ho20)); have n0_ := Aside0.mk (Kd.R_below (ra_ HO_3.out) hb); have n1_ := Aside0.mk (Kd.R_lower ho20 (below_size bl_)); have n2_ := Aside0.mk (below_step bl_ hb); clear HO_3; clear HB; have HO_3 := n0_; have HO931 := n1_; have HB := n2_; clear n0_ n1_ n2_; clear hb ho20))
    repeat (go_quiet (first | ((with_reducible refine gate_dst (N := 36) rfl ?_); refine Kd.R_lit k65 _ 65 ?hg (N := 36) ?hd (xs := ([] : List (S65))) (inner := []) (ok := fun _ => True) (okp := fun _ => True) ?hr ?hp (fun _ hk => hk) trivial (Below.refl _ _) (Nat.le_refl _) (by simp) ?_; (case hd => rfl); (case hg => rfl); (case hr => first | (go_simp; done) | (go_simp; rfl)); (case hp => exact (Reps.none _ _)); intro v930 w19 ho20 hb hg_ hnew_; clear hg_ hnew_; (first | rw [← Ny929.out] at ho20 | (simp only [Int.reduceToNat] at ho20; rw [← Ny929.out] at ho20)); have n0_ := Aside0.mk (Kd.R_below (ra_ HO_3.out) hb); have n1_ := Aside0.mk (Kd.R_lower ho20 (below_size bl_)); have n2_ := Aside0.mk (below_step bl_ hb); clear HO_3; clear HB; have HO_3 := n0_; have HO931 := n1_; have HB := n2_; clear n0_ n1_ n2_; clear hb ho20)); try go_wp2_with (first | ((with_reducible refine gate_dst (N := 36) rfl ?_); refine Kd.R_lit k65 _ 65 ?hg (N := 36) ?hd (xs := ([] : List (S65))) (inner := []) (ok := fun _ => True) (okp := fun _ => True) ?hr ?hp (fun _ hk => hk) trivial (Below.refl _ _) (Nat.le_refl _) (by simp) ?_; (case hd => rfl); (case hg => rfl); (case hr => first | (go_simp; done) | (go_simp; rfl)); (case hp => exact (Reps.none _ _)); intro v930 w19 ho20 hb hg_ hnew_; clear hg_ hnew_; (first | rw [← Ny929.out] at ho20 | (simp only [Int.reduceToNat] at ho20; rw [← Ny929.out] at ho20)); have n0_ := Aside0.mk (Kd.R_below (ra_ HO_3.out) hb); have n1_ := Aside0.mk (Kd.R_lower ho20 (below_size bl_)); have n2_ := Aside0.mk (below_step bl_ hb); clear HO_3; clear HB; have HO_3 := n0_; have HO931 := n1_; have HB := n2_; clear n0_ n1_ n2_; clear hb ho20)))
    go_loopg [6, 7] k1 (fun kq v6 v7 w' => ∃ (x6_2 : List (S65)) (x7_2 : Int), v7 = .int .i64 x7_2 ∧ Aside0 (spec_TalliesOf.l1 kq l0 x3_1 x6_2 x7_2 = some r) ∧ Aside0 (kq ≤ k1) ∧ Aside0 (Kd.R (Kd.int .i64) 3 w' w.heap.size (fun _ => True) u3 x3_1) ∧ Aside0 (Kd.R k65 65 w' w.heap.size (fun _ => True) v6 x6_2) ∧ Aside0 (Below w.heap.size w w'))
    case atStart => exact ⟨(y929), (0), (by first | rfl | (simp; done) | (simp [*]; done)), H', ⟨Nat.le_refl _⟩, ⟨ra_ HO_3.out⟩, ⟨ra_ HO931.out⟩, ⟨bl_⟩⟩
    case round =>
     clear H'
     try clear p2
     try clear c4
     try clear c4b0
     try clear c5
     try clear c5b0
     try clear c6
     try clear c6b0
     try clear c6b1
     try clear p6
     try clear c8
     try clear p9
     try clear q9
     try clear hx9
     try clear hcz10_0
     try clear hcz10_1
     try clear hcz10_2
     try clear hcz10_3
     try clear hcz14_0
     try clear hcz14_1
     try clear hcz14_2
     try clear hcz14_3
     try clear hcz18_0
     try clear hcz18_1
     try clear hcz18_2
     try clear hcz18_3
     try clear hfz10_0
     try clear hfz10_1
     try clear hfz10_2
     try clear hfz10_3
     try clear hfz14_0
     try clear hfz14_1
     try clear hfz14_2
     try clear hfz14_3
     try clear hfz18_0
     try clear hfz18_1
     try clear hfz18_2
     try clear hfz18_3
     try clear hx923_0
     try clear hx923_1
     try clear hx923_2
     try clear hx923_3
     try clear hx923_4
     try clear hx923_5
     try clear p2
     try clear p923
     try clear q923
     obtain ⟨x6_2, x7_2, rfl, HA, HK2, HO_3, HO_6, HB⟩ := hrel
     cases gk with
     | zero => exact absurd HA.out (by simp [spec_TalliesOf.l1])
     | succ k2 =>
      have H := HA.out
      clear HA
      simp only [spec_TalliesOf.l1] at H
      by_cases c21 : x7_2 < (x3_1.length : Int)
      ·rw [if_pos c21] at H
       have c21b0 : decide (x7_2 < (x3_1.length : Int)) = true := decide_eq_true c21
       clear c21
       have H' := Aside0.mk H
       clear H
       obtain ⟨Ao22, co22, eo22⟩ := Kd.R_slice HO_3.out
       subst eo22
       go_wp2
       repeat (go_quiet (fail); try go_wp2)
       go_loopg [8, 9] k2 (fun kq v8 v9 w' => ∃ (x8_3 : Int) (x9_3 : Int), v8 = .int .i64 x8_3 ∧ v9 = .int .i64 x9_3 ∧ Aside0 (spec_TalliesOf.l2 kq l0 x3_1 x6_2 x7_2 x8_3 x9_3 = some r) ∧ Aside0 (kq ≤ k2) ∧ Aside0 (Kd.R (Kd.int .i64) 3 w' w.heap.size (fun _ => True) (.slice Ao22 x3_1.length co22) x3_1) ∧ Aside0 (Kd.R k65 65 w' w.heap.size (fun _ => True) u6 x6_2) ∧ Aside0 (Below w.heap.size w w'))
       case atStart => exact ⟨(0), (0), (by first | rfl | (simp; done) | (simp [*]; done)), (by first | rfl | (simp; done) | (simp [*]; done)), H', ⟨Nat.le_refl _⟩, ⟨ra_ HO_3.out⟩, ⟨ra_ HO_6.out⟩, ⟨bl_⟩⟩
       case round =>
        clear H'
        try clear c2
        try clear p2
        try clear c4
        try clear c4b0
        try clear c5
        try clear c5b0
        try clear c6
        try clear c6b0
        try clear c6b1
        try clear p6
        try clear c8
        try clear p9
        try clear q9
        try clear hx9
        try clear c21
        try clear c21b0
        try clear hcz10_0
        try clear hcz10_1
        try clear hcz10_2
        try clear hcz10_3
        try clear hcz14_0
        try clear hcz14_1
        try clear hcz14_2
        try clear hcz14_3
        try clear hcz18_0
        try clear hcz18_1
        try clear hcz18_2
        try clear hcz18_3
        try clear hfz10_0
        try clear hfz10_1
        try clear hfz10_2
        try clear hfz10_3
        try clear hfz14_0
        try clear hfz14_1
        try clear hfz14_2
        try clear hfz14_3
        try clear hfz18_0
        try clear hfz18_1
        try clear hfz18_2
        try clear hfz18_3
        try clear hx923_0
        try clear hx923_1
        try clear hx923_2
        try clear hx923_3
        try clear hx923_4
        try clear hx923_5
        try clear p2
        try clear p6
        try clear p9
        try clear p923
        try clear q9
        try clear q923
        obtain ⟨x8_3, x9_3, rfl, rfl, HA, HK3, HO_3, HO_6, HB⟩ := hrel
        cases gk with
        | zero => exact absurd HA.out (by simp [spec_TalliesOf.l2])
        | succ k3 =>
         have H := HA.out
         clear HA
         simp only [spec_TalliesOf.l2] at H
         by_cases c23 : x9_3 < (l0.length : Int)
         ·rw [if_pos c23] at H
          have c23b0 : decide (x9_3 < (l0.length : Int)) = true := decide_eq_true c23
          clear c23
          by_cases c24 : 0 ≤ x9_3
          ·rw [if_pos c24] at H
           have c24b0 : decide (0 ≤ x9_3) = true := decide_eq_true c24
           clear c24
           by_cases c25 : ((rd_T131 l0 x9_3).f2.f0) = 1
           ·rw [if_pos c25] at H
            have c25b0 : (((rd_T131 l0 x9_3).f2.f0) == 1) = true := beq_iff_eq.mpr c25
            have c25b1 : (((rd_T131 l0 x9_3).f2.f0) != 1) = false := bne_eq_false_iff_eq.mpr c25
            clear c25
            by_cases c26 : 0 ≤ x7_2
            ·rw [if_pos c26] at H
             have c26b0 : decide (0 ≤ x7_2) = true := decide_eq_true c26
             clear c26
             by_cases c27 : x7_2 < (x3_1.length : Int)
             ·rw [if_pos c27] at H
              have c27b0 : decide (x7_2 < (x3_1.length : Int)) = true := decide_eq_true c27
              clear c27
              by_cases c28 : ((rd_T131 l0 x9_3).f2.f1) = (rd x3_1 x7_2)
              ·rw [if_pos c28] at H
               have c28b0 : (((rd_T131 l0 x9_3).f2.f1) == (rd x3_1 x7_2)) = true := beq_iff_eq.mpr c28
               have c28b1 : (((rd_T131 l0 x9_3).f2.f1) != (rd x3_1 x7_2)) = false := bne_eq_false_iff_eq.mpr c28
               clear c28
               have H' := Aside0.mk H
               clear H
               have p932 : 0 ≤ (x9_3 : Int) := of_decide_eq_true as_
               have q932 : x9_3 < (l0.length : Int) := of_decide_eq_true as_
               obtain ⟨ad932, e932, hx932_0, hx932_1, hx932_2, hx932_3, hx932_4, hx932_5⟩ := at_T131 HR0.out x9_3 p932 q932
               cases e932
               replace hx932_0 := (HB.out.cell (World.block_lt_of_cell? w _ hx932_0)).trans hx932_0
               replace hx932_1 := (HB.out.cell (World.block_lt_of_cell? w _ hx932_1)).trans hx932_1
               replace hx932_2 := (HB.out.cell (World.block_lt_of_cell? w _ hx932_2)).trans hx932_2
               replace hx932_3 := (HB.out.cell (World.block_lt_of_cell? w _ hx932_3)).trans hx932_3
               replace hx932_4 := (HB.out.cell (World.block_lt_of_cell? w _ hx932_4)).trans hx932_4
               replace hx932_5 := (HB.out.cell (World.block_lt_of_cell? w _ hx932_5)).trans hx932_5
               replace p932 := eq_true p932
               replace q932 := eq_true q932
               have p933 : 0 ≤ (x9_3 : Int) := of_decide_eq_true as_
               have q933 : x9_3 < (l0.length : Int) := of_decide_eq_true as_
               obtain ⟨ad933, e933, hx933_0, hx933_1, hx933_2, hx933_3, hx933_4, hx933_5⟩ := at_T131 HR0.out x9_3 p933 q933
               obtain rfl : ad932 = ad933 := (by injection e933)
               replace hx933_0 := (HB.out.cell (World.block_lt_of_cell? w _ hx933_0)).trans hx933_0
               replace hx933_1 := (HB.out.cell (World.block_lt_of_cell? w _ hx933_1)).trans hx933_1
               replace hx933_2 := (HB.out.cell (World.block_lt_of_cell? w _ hx933_2)).trans hx933_2
               replace hx933_3 := (HB.out.cell (World.block_lt_of_cell? w _ hx933_3)).trans hx933_3
               replace hx933_4 := (HB.out.cell (World.block_lt_of_cell? w _ hx933_4)).trans hx933_4
               replace hx933_5 := (HB.out.cell (World.block_lt_of_cell? w _ hx933_5)).trans hx933_5
               replace p933 := eq_true p933
               replace q933 := eq_true q933
               have p934 : 0 ≤ (x7_2 : Int) := of_decide_eq_true as_
               have q934 : x7_2 < (x3_1.length : Int) := of_decide_eq_true as_
               obtain ⟨ad934, e934, hx934_0⟩ := Kd.at_int (Kd.R_reads' HO_3.out).2.2 x7_2 p934 q934
               cases e934
               replace p934 := eq_true p934
               replace q934 := eq_true q934
               go_wp2
               repeat (go_quiet (fail); try go_wp2)
               go_roundg k3
               case measure => have := HK1.out; have := HK2.out; have := HK3.out; omega
               case rel => exact ⟨(wrap64 (x8_3 + 1)), (wrap64 (x9_3 + 1)), (by first | rfl | (simp; done) | (simp [*]; done)), (by first | rfl | (simp; done) | (simp [*]; done)), H', ⟨by have := HK1.out; have := HK2.out; have := HK3.out; omega⟩, ⟨ra_ HO_3.out⟩, ⟨ra_ HO_6.out⟩, ⟨bl_⟩⟩
              ·rw [if_neg c28] at H
               have c28b0 : (((rd_T131 l0 x9_3).f2.f1) == (rd x3_1 x7_2)) = false := beq_eq_false_iff_ne.mpr c28
               have c28b1 : (((rd_T131 l0 x9_3).f2.f1) != (rd x3_1 x7_2)) = true := bne_iff_ne.mpr c28
               have H' := Aside0.mk H
               clear H
               have p932 : 0 ≤ (x9_3 : Int) := of_decide_eq_true as_
               have q932 : x9_3 < (l0.length : Int) := of_decide_eq_true as_
               obtain ⟨ad932, e932, hx932_0, hx932_1, hx932_2, hx932_3, hx932_4, hx932_5⟩ := at_T131 HR0.out x9_3 p932 q932
               cases e932
               replace hx932_0 := (HB.out.cell (World.block_lt_of_cell? w _ hx932_0)).trans hx932_0
               replace hx932_1 := (HB.out.cell (World.block_lt_of_cell? w _ hx932_1)).trans hx932_1
               replace hx932_2 := (HB.out.cell (World.block_lt_of_cell? w _ hx932_2)).trans hx932_2
               replace hx932_3 := (HB.out.cell (World.block_lt_of_cell? w _ hx932_3)).trans hx932_3
               replace hx932_4 := (HB.out.cell (World.block_lt_of_cell? w _ hx932_4)).trans hx932_4
               replace hx932_5 := (HB.out.cell (World.block_lt_of_cell? w _ hx932_5)).trans hx932_5
               replace p932 := eq_true p932
               replace q932 := eq_true q932
               have p933 : 0 ≤ (x9_3 : Int) := of_decide_eq_true as_
               have q933 : x9_3 < (l0.length : Int) := of_decide_eq_true as_
               obtain ⟨ad933, e933, hx933_0, hx933_1, hx933_2, hx933_3, hx933_4, hx933_5⟩ := at_T131 HR0.out x9_3 p933 q933
               obtain rfl : ad932 = ad933 := (by injection e933)
               replace hx933_0 := (HB.out.cell (World.block_lt_of_cell? w _ hx933_0)).trans hx933_0
               replace hx933_1 := (HB.out.cell (World.block_lt_of_cell? w _ hx933_1)).trans hx933_1
               replace hx933_2 := (HB.out.cell (World.block_lt_of_cell? w _ hx933_2)).trans hx933_2
               replace hx933_3 := (HB.out.cell (World.block_lt_of_cell? w _ hx933_3)).trans hx933_3
               replace hx933_4 := (HB.out.cell (World.block_lt_of_cell? w _ hx933_4)).trans hx933_4
               replace hx933_5 := (HB.out.cell (World.block_lt_of_cell? w _ hx933_5)).trans hx933_5
               replace p933 := eq_true p933
               replace q933 := eq_true q933
               have p934 : 0 ≤ (x7_2 : Int) := of_decide_eq_true as_
               have q934 : x7_2 < (x3_1.length : Int) := of_decide_eq_true as_
               obtain ⟨ad934, e934, hx934_0⟩ := Kd.at_int (Kd.R_reads' HO_3.out).2.2 x7_2 p934 q934
               cases e934
               replace p934 := eq_true p934
               replace q934 := eq_true q934
               go_wp2
               repeat (go_quiet (fail); try go_wp2)
               go_roundg k3
               case measure => have := HK1.out; have := HK2.out; have := HK3.out; omega
               case rel => exact ⟨(x8_3), (wrap64 (x9_3 + 1)), (by first | rfl | (simp; done) | (simp [*]; done)), (by first | rfl | (simp; done) | (simp [*]; done)), H', ⟨by have := HK1.out; have := HK2.out; have := HK3.out; omega⟩, ⟨ra_ HO_3.out⟩, ⟨ra_ HO_6.out⟩, ⟨bl_⟩⟩
             ·rw [if_neg c27] at H
              exact absurd H (by simp)
            ·rw [if_neg c26] at H
             exact absurd H (by simp)
           ·rw [if_neg c25] at H
            have c25b0 : (((rd_T131 l0 x9_3).f2.f0) == 1) = false := beq_eq_false_iff_ne.mpr c25
            have c25b1 : (((rd_T131 l0 x9_3).f2.f0) != 1) = true := bne_iff_ne.mpr c25
            have H' := Aside0.mk H
            clear H
            have p932 : 0 ≤ (x9_3 : Int) := of_decide_eq_true as_
            have q932 : x9_3 < (l0.length : Int) := of_decide_eq_true as_
            obtain ⟨ad932, e932, hx932_0, hx932_1, hx932_2, hx932_3, hx932_4, hx932_5⟩ := at_T131 HR0.out x9_3 p932 q932
            cases e932
            replace hx932_0 := (HB.out.cell (World.block_lt_of_cell? w _ hx932_0)).trans hx932_0
            replace hx932_1 := (HB.out.cell (World.block_lt_of_cell? w _ hx932_1)).trans hx932_1
            replace hx932_2 := (HB.out.cell (World.block_lt_of_cell? w _ hx932_2)).trans hx932_2
            replace hx932_3 := (HB.out.cell (World.block_lt_of_cell? w _ hx932_3)).trans hx932_3
            replace hx932_4 := (HB.out.cell (World.block_lt_of_cell? w _ hx932_4)).trans hx932_4
            replace hx932_5 := (HB.out.cell (World.block_lt_of_cell? w _ hx932_5)).trans hx932_5
            replace p932 := eq_true p932
            replace q932 := eq_true q932
            go_wp2
            repeat (go_quiet (fail); try go_wp2)
            go_roundg k3
            case measure => have := HK1.out; have := HK2.out; have := HK3.out; omega
            case rel => exact ⟨(x8_3), (wrap64 (x9_3 + 1)), (by first | rfl | (simp; done) | (simp [*]; done)), (by first | rfl | (simp; done) | (simp [*]; done)), H', ⟨by have := HK1.out; have := HK2.out; have := HK3.out; omega⟩, ⟨ra_ HO_3.out⟩, ⟨ra_ HO_6.out⟩, ⟨bl_⟩⟩
          ·rw [if_neg c24] at H
           exact absurd H (by simp)
         ·rw [if_neg c23] at H
          have c23b0 : decide (x9_3 < (l0.length : Int)) = false := decide_eq_false c23
          clear c23
          by_cases c29 : 0 ≤ x7_2
          ·rw [if_pos c29] at H
           have c29b0 : decide (0 ≤ x7_2) = true := decide_eq_true c29
           clear c29
           by_cases c30 : x7_2 < (x3_1.length : Int)
           ·rw [if_pos c30] at H
            have c30b0 : decide (x7_2 < (x3_1.length : Int)) = true := decide_eq_true c30
            clear c30
            by_cases c31 : x6_2.length < 8796093022208
            ·rw [if_pos c31] at H
             have LMc31 := Aside0.mk c31
             clear c31
             obtain ⟨y936, hy936⟩ : ∃ y_ : List (S65), y_ = (x6_2 ++ [(⟨rd x3_1 x7_2, x8_3⟩ : S65)]) := ⟨_, rfl⟩
             replace H : (spec_TalliesOf.l1 k3 l0 x3_1 y936 (wrap64 (x7_2 + 1))) = some r := by first | (rw [hy936]; with_reducible exact H) | (have H2_ := (Option.bind_some _ _).symm.trans H; rw [hy936]; with_reducible exact H2_) | (have H2_ := (Option.bind_some _ _).symm.trans H; with_reducible exact H2_) | with_reducible exact H | (rw [hy936]; exact H) | exact H
             have Ny936 := Aside0.mk hy936
             clear hy936
             have H' := Aside0.mk H
             clear H
             have p935 : 0 ≤ (x7_2 : Int) := of_decide_eq_true as_
             have q935 : x7_2 < (x3_1.length : Int) := of_decide_eq_true as_
             obtain ⟨ad935, e935, hx935_0⟩ := Kd.at_int (Kd.R_reads' HO_3.out).2.2 x7_2 p935 q935
             cases e935
             replace p935 := eq_true p935
             replace q935 := eq_true q935
             go_wp2_with (first | ((with_reducible refine gate_builtin (b := .append) (xs := #[.tmp 71, .tmp 78]) rfl ?_); at_builtin; refine Kd.R_append k65 (w0 := w) w.heap.size rfl (.tmp 71) (.tmp 78) 59 65 (.agg #[(.int .i64 0), (.int .i64 0)]) 16 rfl Try.underlying59 info65 rfl (by decide) (by omega) u6 x6_2 (⟨rd x3_1 x7_2, x8_3⟩ : S65) [.int .i64 (rd x3_1 x7_2), .int .i64 x8_3] (fun _ => True) (fun _ => False) rfl rfl ?aP (fun _ hk => hk.elim) ?aF ?aO ?aB ?aS ?aL ?_; (case aP => exact k65_mkM _ _ _ (⟨rd x3_1 x7_2, x8_3⟩ : S65)); (case aB => exact bl_); (case aF => exact (fun _ _ => trivial)); (case aO => exact (ra_ HO_6.out)); (case aS => exact (below_size bl_)); (case aL => have := LMc31.out; omega); intro v937 w32 ho hb hg hat; rw [← Ny936.out] at ho; have n0_ := Aside0.mk (Kd.R_over' (ra_ HO_3.out) (Kd.R_typed (ra_ HO_6.out)) (by decide) hg); have n1_ := Aside0.mk (hb); have n2_ := Aside0.mk (ho); clear HO_3; clear HB; clear HO_6; have HO_3 := n0_; have HB := n1_; have HO938 := n2_; clear n0_ n1_ n2_; clear ho hb hg hat))
             repeat (go_quiet (first | ((with_reducible refine gate_builtin (b := .append) (xs := #[.tmp 71, .tmp 78]) rfl ?_); at_builtin; refine Kd.R_append k65 (w0 := w) w.heap.size rfl (.tmp 71) (.tmp 78) 59 65 (.agg #[(.int .i64 0), (.int .i64 0)]) 16 rfl Try.underlying59 info65 rfl (by decide) (by omega) u6 x6_2 (⟨rd x3_1 x7_2, x8_3⟩ : S65) [.int .i64 (rd x3_1 x7_2), .int .i64 x8_3] (fun _ => True) (fun _ => False) rfl rfl ?aP (fun _ hk => hk.elim) ?aF ?aO ?aB ?aS ?aL ?_; (case aP => exact k65_mkM _ _ _ (⟨rd x3_1 x7_2, x8_3⟩ : S65)); (case aB => exact bl_); (case aF => exact (fun _ _ => trivial)); (case aO => exact (ra_ HO_6.out)); (case aS => exact (below_size bl_)); (case aL => have := LMc31.out; omega); intro v937 w32 ho hb hg hat; rw [← Ny936.out] at ho; have n0_ := Aside0.mk (Kd.R_over' (ra_ HO_3.out) (Kd.R_typed (ra_ HO_6.out)) (by decide) hg); have n1_ := Aside0.mk (hb); have n2_ := Aside0.mk (ho); clear HO_3; clear HB; clear HO_6; have HO_3 := n0_; have HB := n1_; have HO938 := n2_; clear n0_ n1_ n2_; clear ho hb hg hat)); try go_wp2_with (first | ((with_reducible refine gate_builtin (b := .append) (xs := #[.tmp 71, .tmp 78]) rfl ?_); at_builtin; refine Kd.R_append k65 (w0 := w) w.heap.size rfl (.tmp 71) (.tmp 78) 59 65 (.agg #[(.int .i64 0), (.int .i64 0)]) 16 rfl Try.underlying59 info65 rfl (by decide) (by omega) u6 x6_2 (⟨rd x3_1 x7_2, x8_3⟩ : S65) [.int .i64 (rd x3_1 x7_2), .int .i64 x8_3] (fun _ => True) (fun _ => False) rfl rfl ?aP (fun _ hk => hk.elim) ?aF ?aO ?aB ?aS ?aL ?_; (case aP => exact k65_mkM _ _ _ (⟨rd x3_1 x7_2, x8_3⟩ : S65)); (case aB => exact bl_); (case aF => exact (fun _ _ => trivial)); (case aO => exact (ra_ HO_6.out)); (case aS => exact (below_size bl_)); (case aL => have := LMc31.out; omega); intro v937 w32 ho hb hg hat; rw [← Ny936.out] at ho; have n0_ := Aside0.mk (Kd.R_over' (ra_ HO_3.out) (Kd.R_typed (ra_ HO_6.out)) (by decide) hg); have n1_ := Aside0.mk (hb); have n2_ := Aside0.mk (ho); clear HO_3; clear HB; clear HO_6; have HO_3 := n0_; have HB := n1_; have HO938 := n2_; clear n0_ n1_ n2_; clear ho hb hg hat)))
             go_roundg k3
             case measure => have := HK1.out; have := HK2.out; have := HK3.out; omega
             case rel => exact ⟨(y936), (wrap64 (x7_2 + 1)), (by first | rfl | (simp; done) | (simp [*]; done)), H', ⟨by have := HK1.out; have := HK2.out; have := HK3.out; omega⟩, ⟨ra_ HO_3.out⟩, ⟨ra_ HO938.out⟩, ⟨bl_⟩⟩
            ·rw [if_neg c31] at H
             exact absurd H (by simp)
           ·rw [if_neg c30] at H
            exact absurd H (by simp)
          ·rw [if_neg c29] at H
           exact absurd H (by simp)
      ·rw [if_neg c21] at H
       have c21b0 : decide (x7_2 < (x3_1.length : Int)) = false := decide_eq_false c21
       clear c21
       obtain rfl := Option.some.inj H
       obtain ⟨Ao33, co33, eo33⟩ := Kd.R_slice HO_3.out
       subst eo33
       go_wp2
       repeat (go_quiet (fail); try go_wp2)
       go_ret
       exact ⟨_, by first | rfl | (simp [errW_none, errW_some] <;> rfl) | (simp [*, errW_none, errW_some] <;> rfl) | exact False.elim (Bool.noConfusion ((decide_eq_true (of_eq_true (by assumption))).symm.trans (by assumption))), ra_ HO_6.out, bl_⟩

end Go.Proofs.Ytmjlhikflhbdaaa.PA

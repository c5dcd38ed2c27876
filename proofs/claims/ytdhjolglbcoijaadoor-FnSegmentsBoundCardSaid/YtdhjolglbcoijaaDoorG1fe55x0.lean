/- Contracts of functions of the program and of the reference, and plain lemmas on what they compute. No condition. -/
import Derived.Test.YtdhjolglbcoijaaDoorG7ebe2x0
import Derived.Test.YtdhjolglbcoijaaDoorG7ebe2x2
import Derived.Test.YtdhjolglbcoijaaDoorG28bc3x0
import Derived.Test.YtdhjolglbcoijaaDoorGee5d4x0
import Derived.Test.YtdhjolglbcoijaaDoorShort
namespace Go.Proofs.YtdhjolglbcoijaaDoor.PA
open Go.RowKit Go.Proofs.YtdhjolglbcoijaaDoor.Short Go.Proofs.YtdhjolglbcoijaaDoorW.PrintWords Go.Proofs.YtdhjolglbcoijaaDoorW.PrintLast Go.Proofs.YtdhjolglbcoijaaDoorW.PrintMore
attribute [local go_sem] max2_int min2_int max_two min_two max_three min_three max_four min_four   -- for this text's walks alone
set_option linter.unusedVariables false
set_option linter.unusedSimpArgs false

/-! ### impl_JoinSegments: function 41 -/
def impl_JoinSegments.l0 : Nat → List (S70) → ByteArray → List (S30) → Int → Int → Option ((List (S70)) × Bool)
 | 0, _, _, _, _, _ => none
 | k + 1, x4, x5, x10, x11, x12 => if x12 < x11 then (if 0 ≤ x12 then (if x12 < (x10.length : Int) then ((impl_SegmentOk.f k ((rd_T30 x10 x12).f0) ((rd_T30 x10 x12).f1) ((rd_T30 x10 x12).f2) ((rd_T30 x10 x12).f3)).bind fun t765 => (if t765 = true then (if ((rd_T30 x10 x12).f0) = (x4.length : Int) then (if ((rd_T30 x10 x12).f1).toList = x5.toList then (if x4.length + ((rd_T30 x10 x12).f2).length < 2932031007402 then (impl_JoinSegments.l0 k (x4 ++ ((rd_T30 x10 x12).f2)) ((rd_T30 x10 x12).f3) x10 x11 (wrap64 (x12 + 1))) else (none)) else (some ((([] : List (S70))), false))) else (some ((([] : List (S70))), false))) else (some ((([] : List (S70))), false)))) else (none)) else (none)) else (some (x4, true))
def impl_JoinSegments.f (k : Nat) (l0 : List (S30)) : Option ((List (S70)) × Bool) := (impl_Digest.f k (⟨#[]⟩ : ByteArray)).bind fun t762 => (impl_JoinSegments.l0 k (([] : List (S70))) t762 l0 (l0.length : Int) 0)
theorem impl_JoinSegments.mono_l : ∀ k, (∀ y0 y1 y2 y3 y4, LeO (impl_JoinSegments.l0 k y0 y1 y2 y3 y4) (impl_JoinSegments.l0 (k + 1) y0 y1 y2 y3 y4))
 | 0 => fun _ _ _ _ _ r h => by simp [impl_JoinSegments.l0] at h
 | k + 1 => by
  have ih0 := impl_JoinSegments.mono_l k
  ·intro y0 y1 y2 y3 y4
   unfold impl_JoinSegments.l0
   repeat' first
   | (with_reducible exact ih0 _ _ _ _ _)
   | (with_reducible exact impl_Digest.mono _ _)
   | (with_reducible exact impl_SegmentOk.mono _ _ _ _ _)
   | (with_reducible exact LeO.refl _)
   | (with_reducible exact LeO.none _)
   | (with_reducible refine LeO.ite ?_ ?_)
   | (with_reducible refine LeO.bind ?_ (fun _ => ?_))
   | exact ih0 _ _ _ _ _
   | exact impl_Digest.mono _ _
   | exact impl_SegmentOk.mono _ _ _ _ _
   | exact LeO.none _
   | refine LeO.ite ?_ ?_
   | refine LeO.bind ?_ (fun _ => ?_)
theorem impl_JoinSegments.mono : ∀ a0 k, LeO (impl_JoinSegments.f k a0) (impl_JoinSegments.f (k + 1) a0) := by
 intro a0 k
 have ih0 := impl_JoinSegments.mono_l k
 unfold impl_JoinSegments.f
 repeat' first
  | (with_reducible exact ih0 _ _ _ _ _)
  | (with_reducible exact impl_Digest.mono _ _)
  | (with_reducible exact impl_SegmentOk.mono _ _ _ _ _)
  | (with_reducible exact LeO.refl _)
  | (with_reducible exact LeO.none _)
  | (with_reducible refine LeO.ite ?_ ?_)
  | (with_reducible refine LeO.bind ?_ (fun _ => ?_))
  | exact ih0 _ _ _ _ _
  | exact impl_Digest.mono _ _
  | exact impl_SegmentOk.mono _ _ _ _ _
  | exact LeO.none _
  | refine LeO.ite ?_ ?_
  | refine LeO.bind ?_ (fun _ => ?_)
set_option maxHeartbeats 8000000 in
set_option maxRecDepth 100000 in
theorem impl_JoinSegments.calls (k : Nat) (A0 : Option Addr) (c0 : Nat) (l0 : List (S30)) (r1 : List (S70)) (r2 : Bool) (w : World) (hr0 : Kd.C k30 w A0 l0.length l0) (hc0 : l0.length ≤ c0) (hT : Tab w) (h : impl_JoinSegments.f k l0 = some (r1, r2)) :
 Calls Tryd.prog 41 #[.slice A0 l0.length c0] w fun e w' => ∃ v0_ : Value, e = .returned (.tuple #[v0_, .bool r2]) ∧ Kd.R k70 70 w' w.heap.size (fun _ => True) v0_ r1 ∧ Below w.heap.size w w' := by
 have hu30 := Tryd.underlying30
 have HR0 := Aside0.mk hr0
 have HC0 := Aside0.mk hc0
 clear hr0 hc0
 have HT := Aside0.mk hT
 clear hT
 have HB := Aside0.mk (Below.refl w.heap.size w)
 have H : ((impl_Digest.f k (⟨#[]⟩ : ByteArray)).bind fun t762 => (impl_JoinSegments.l0 k (([] : List (S70))) t762 l0 (l0.length : Int) 0)) = some (r1, r2) := h
 clear h
 obtain ⟨y759, hy759⟩ : ∃ y_ : List (S70), y_ = (([] : List (S70))) := ⟨_, rfl⟩
 replace H : ((impl_Digest.f k (⟨#[]⟩ : ByteArray)).bind fun t762 => (impl_JoinSegments.l0 k y759 t762 l0 (l0.length : Int) 0)) = some (r1, r2) := by first | (rw [hy759]; with_reducible exact H) | (have H2_ := (Option.bind_some _ _).symm.trans H; rw [hy759]; with_reducible exact H2_) | (have H2_ := (Option.bind_some _ _).symm.trans H; with_reducible exact H2_) | with_reducible exact H | (rw [hy759]; exact H) | exact H
 have Ny759 := Aside0.mk hy759
 clear hy759
 replace H := Option.bind_eq_some_iff.mp H
 obtain ⟨t762, A20, H⟩ := H
 replace H : (impl_JoinSegments.l0 k y759 t762 l0 (l0.length : Int) 0) = some (r1, r2) := H
 have A2 := Aside0.mk A20
 clear A20
 have H' := Aside0.mk H
 clear H
 go_enter Tryd.func41, Tryd.ntmps41
 go_wp2_with (first | ((with_reducible refine gate_dst (N := 8) rfl ?_); (try (refine gate_guard (by rfl) ?_; dsimp only)); refine Kd.R_lit k70 _ 70 ?hg (N := 8) ?hd (xs := ([] : List (S70))) (inner := []) (ok := fun _ => True) (okp := fun _ => True) ?hr ?hp (fun _ hk => hk) trivial (Below.refl _ _) (Nat.le_refl _) (by simp) ?_; (case hd => rfl); (case hg => rfl); (case hr => first | (go_simp; done) | (go_simp; rfl)); (case hp => exact (Reps.none _ _)); intro v760 w3 ho4 hb hg_ hnew_; clear hg_ hnew_; (first | rw [← Ny759.out] at ho4 | (simp only [Int.reduceToNat] at ho4; rw [← Ny759.out] at ho4)); have n0_ := Aside0.mk (Kd.R_lower ho4 (below_size bl_)); have n1_ := Aside0.mk (below_step bl_ hb); clear HB; have HO761 := n0_; have HB := n1_; clear n0_ n1_; clear hb ho4) | ((with_reducible refine gate_callee (f := 86) rfl ?_); refine goesL_ (some 9) rfl rfl Tryd.func86 (by kernel_rfl) rfl #[.string (⟨#[]⟩ : ByteArray)] rfl lm_ ?_; (with_reducible refine (impl_Digest.calls k (⟨#[]⟩ : ByteArray) t762 _ ?side1 A2.out).mono ?_); (case side1 => exact tab_of HT.out bl_); rintro e w5 ⟨rfl, hb⟩; refine ⟨_, rfl, ?_⟩; have n0_ := Aside0.mk (Kd.R_below (ra_ HO761.out) hb); have n1_ := Aside0.mk (below_step bl_ hb); clear HO761; clear HB; have HO761 := n0_; have HB := n1_; clear n0_ n1_; (try clear hb); (try clear hb2); (try clear hk); (try clear hi)))
 go_loopg [4, 5, 12] k (fun kq v4 v5 v12 w' => ∃ (x4_1 : List (S70)) (x5_1 : ByteArray) (x12_1 : Int), v5 = .string x5_1 ∧ v12 = .int .i64 x12_1 ∧ Aside0 (impl_JoinSegments.l0 kq x4_1 x5_1 l0 (l0.length : Int) x12_1 = some (r1, r2)) ∧ Aside0 (kq ≤ k) ∧ Aside0 (Kd.R k70 70 w' w.heap.size (fun _ => True) v4 x4_1) ∧ Aside0 (Below w.heap.size w w'))
 case atStart => exact ⟨(y759), (t762), (0), (by first | rfl | (simp; done) | (simp [*]; done)), (by first | rfl | (simp; done) | (simp [*]; done)), H', ⟨Nat.le_refl _⟩, ⟨ra_ HO761.out⟩, ⟨bl_⟩⟩
 case round =>
  clear H'
  try clear p2
  try clear c4
  obtain ⟨x4_1, x5_1, x12_1, rfl, rfl, HA, HK1, HO_4, HB⟩ := hrel
  cases gk with
  | zero => exact absurd HA.out (by simp [impl_JoinSegments.l0])
  | succ k1 =>
   have H := HA.out
   clear HA
   simp only [impl_JoinSegments.l0] at H
   by_cases c6 : x12_1 < (l0.length : Int)
   ·rw [if_pos c6] at H
    have c6b0 : decide (x12_1 < (l0.length : Int)) = true := decide_eq_true c6
    clear c6
    by_cases c7 : 0 ≤ x12_1
    ·rw [if_pos c7] at H
     have c7b0 : decide (0 ≤ x12_1) = true := decide_eq_true c7
     clear c7
     by_cases c8 : x12_1 < (l0.length : Int)
     ·rw [if_pos c8] at H
      have c8b0 : decide (x12_1 < (l0.length : Int)) = true := decide_eq_true c8
      clear c8
      replace H := Option.bind_eq_some_iff.mp H
      obtain ⟨t765, A90, H⟩ := H
      replace H : (if t765 = true then (if ((rd_T30 l0 x12_1).f0) = (x4_1.length : Int) then (if ((rd_T30 l0 x12_1).f1).toList = x5_1.toList then (if x4_1.length + ((rd_T30 l0 x12_1).f2).length < 2932031007402 then (impl_JoinSegments.l0 k1 (x4_1 ++ ((rd_T30 l0 x12_1).f2)) ((rd_T30 l0 x12_1).f3) l0 (l0.length : Int) (wrap64 (x12_1 + 1))) else (none)) else (some ((([] : List (S70))), false))) else (some ((([] : List (S70))), false))) else (some ((([] : List (S70))), false))) = some (r1, r2) := H
      have A9 := Aside0.mk A90
      clear A90
      by_cases c10 : t765 = true
      ·subst c10
       have H1 : (if ((rd_T30 l0 x12_1).f0) = (x4_1.length : Int) then (if ((rd_T30 l0 x12_1).f1).toList = x5_1.toList then (if x4_1.length + ((rd_T30 l0 x12_1).f2).length < 2932031007402 then (impl_JoinSegments.l0 k1 (x4_1 ++ ((rd_T30 l0 x12_1).f2)) ((rd_T30 l0 x12_1).f3) l0 (l0.length : Int) (wrap64 (x12_1 + 1))) else (none)) else (some ((([] : List (S70))), false))) else (some ((([] : List (S70))), false))) = some (r1, r2) := by rw [if_pos rfl] at H; exact H
       clear H
       have H := H1
       clear H1
       by_cases c11 : ((rd_T30 l0 x12_1).f0) = (x4_1.length : Int)
       ·rw [if_pos c11] at H
        have c11b0 : (((rd_T30 l0 x12_1).f0) == (x4_1.length : Int)) = true := beq_iff_eq.mpr c11
        have c11b1 : (((rd_T30 l0 x12_1).f0) != (x4_1.length : Int)) = false := bne_eq_false_iff_eq.mpr c11
        clear c11
        by_cases c12 : ((rd_T30 l0 x12_1).f1).toList = x5_1.toList
        ·rw [if_pos c12] at H
         have c12b0 : (((rd_T30 l0 x12_1).f1).toList == x5_1.toList) = true := beq_iff_eq.mpr c12
         have c12b1 : (((rd_T30 l0 x12_1).f1).toList != x5_1.toList) = false := bne_eq_false_iff_eq.mpr c12
         clear c12
         by_cases c13 : x4_1.length + ((rd_T30 l0 x12_1).f2).length < 2932031007402
         ·rw [if_pos c13] at H
          have LMc13 := Aside0.mk c13
          clear c13
          obtain ⟨y766, hy766⟩ : ∃ y_ : List (S70), y_ = (x4_1 ++ ((rd_T30 l0 x12_1).f2)) := ⟨_, rfl⟩
          replace H : (impl_JoinSegments.l0 k1 y766 ((rd_T30 l0 x12_1).f3) l0 (l0.length : Int) (wrap64 (x12_1 + 1))) = some (r1, r2) := by first | (rw [hy766]; with_reducible exact H) | (have H2_ := (Option.bind_some _ _).symm.trans H; rw [hy766]; with_reducible exact H2_) | (have H2_ := (Option.bind_some _ _).symm.trans H; with_reducible exact H2_) | with_reducible exact H | (rw [hy766]; exact H) | exact H
          have Ny766 := Aside0.mk hy766
          clear hy766
          have H' := Aside0.mk H
          clear H
          have p763 : 0 ≤ (x12_1 : Int) := of_decide_eq_true as_
          have q763 : x12_1 < (l0.length : Int) := of_decide_eq_true as_
          obtain ⟨ad763, A763_2, c763_2, e763, hx763_0, hx763_1, hx763_2, hx763_3, hl763_2, hi763_2⟩ := at_T30 HR0.out x12_1 p763 q763
          cases e763
          replace hx763_0 := (HB.out.cell (World.block_lt_of_cell? w _ hx763_0)).trans hx763_0
          replace hx763_1 := (HB.out.cell (World.block_lt_of_cell? w _ hx763_1)).trans hx763_1
          replace hx763_2 := (HB.out.cell (World.block_lt_of_cell? w _ hx763_2)).trans hx763_2
          replace hx763_3 := (HB.out.cell (World.block_lt_of_cell? w _ hx763_3)).trans hx763_3
          have HR763_2 := Aside0.mk hi763_2
          have HC763_2 := Aside0.mk hl763_2
          clear hi763_2 hl763_2
          replace p763 := eq_true p763
          replace q763 := eq_true q763
          go_wp2_with (first | ((with_reducible refine gate_dst (N := 7) rfl ?_); (try (refine gate_guard (by rfl) ?_; dsimp only)); refine box_event ?hg (N := 7) ?hd (cs := #[.int .i64 0, .string (⟨#[]⟩ : ByteArray), .slice none 0 0, .string (⟨#[]⟩ : ByteArray)]) (t := 30) ?hr ?_; (case hd => rfl); (case hg => rfl); (case hr => first | (go_simp; done) | (go_simp; rfl)); intro gb764 hg w14 hbox hb; have n0_ := Aside0.mk (Kd.R_below (ra_ HO_4.out) hb); have n1_ := Aside0.mk (below_step bl_ hb); have n2_ := Aside0.mk (hbox); have n3_ := Aside0.mk ((hz_ : w.heap.size ≤ gb764)); have n4_ := Aside0.mk ((hz_ : w.heap.size ≤ gb764)); clear HO_4; clear HB; have HO_4 := n0_; have HB := n1_; have BK764 := n2_; have GW764 := n3_; have GE764 := n4_; clear n0_ n1_ n2_ n3_ n4_; clear hb hbox hg; have hcz15_0 : w14.cell? ⟨gb764, 0, none⟩ = some (.int .i64 0) := (blk_cell BK764.out 0).trans rfl; have hcz15_1 : w14.cell? ⟨gb764, 1, none⟩ = some (.string (⟨#[]⟩ : ByteArray)) := (blk_cell BK764.out 1).trans rfl; have hcz15_2 : w14.cell? ⟨gb764, 2, none⟩ = some (.slice none 0 0) := (blk_cell BK764.out 2).trans rfl; have hcz15_3 : w14.cell? ⟨gb764, 3, none⟩ = some (.string (⟨#[]⟩ : ByteArray)) := (blk_cell BK764.out 3).trans rfl; have hfz15_0 := blk_frozen BK764.out 0; have hfz15_1 := blk_frozen BK764.out 1; have hfz15_2 := blk_frozen BK764.out 2; have hfz15_3 := blk_frozen BK764.out 3) | ((with_reducible refine gate_callee (f := 20) rfl ?_); refine goesL_ (some 17) rfl rfl Tryd.func20 (by kernel_rfl) rfl #[.agg #[.int .i64 ((rd_T30 l0 x12_1).f0), .string ((rd_T30 l0 x12_1).f1), .slice A763_2 ((rd_T30 l0 x12_1).f2).length c763_2, .string ((rd_T30 l0 x12_1).f3)]] rfl lm_ ?_; (with_reducible refine (impl_SegmentOk.calls k1 ((rd_T30 l0 x12_1).f0) ((rd_T30 l0 x12_1).f1) _ _ ((rd_T30 l0 x12_1).f2) ((rd_T30 l0 x12_1).f3) true _ ?side1 ?side2 ?side3 A9.out).mono ?_); (case side1 => exact Kd.C_below HR763_2.out bl_); (case side2 => exact HC763_2.out); (case side3 => exact tab_of HT.out bl_); rintro e w16 ⟨rfl, hb⟩; refine ⟨_, rfl, ?_⟩; have n0_ := Aside0.mk (Kd.R_below (by (with_reducible repeat (first | apply Kd.R_alloc | apply Kd.R_drewN | apply Kd.R_drew)); exact (Kd.R_mono (Kd.R_far (p := ⟨gb764, 3, none⟩) (Kd.R_far (p := ⟨gb764, 2, none⟩) (Kd.R_far (p := ⟨gb764, 1, none⟩) (Kd.R_far (p := ⟨gb764, 0, none⟩) (Kd.R_types HO_4.out BK764.out (by decide)) (fun _ hk => hk.2) (.int .i64 ((rd_T30 l0 x12_1).f0))) (fun _ hk => hk.2) (.string ((rd_T30 l0 x12_1).f1))) (fun _ hk => hk.2) (.slice A763_2 ((rd_T30 l0 x12_1).f2).length c763_2)) (fun _ hk => hk.2) (.string ((rd_T30 l0 x12_1).f3))) (fun _ h_ => h_.1))) hb); have n1_ := Aside0.mk (blk_below (g := gb764) (o := .cells #[.int .i64 ((rd_T30 l0 x12_1).f0), .string ((rd_T30 l0 x12_1).f1), .slice A763_2 ((rd_T30 l0 x12_1).f2).length c763_2, .string ((rd_T30 l0 x12_1).f3)] 30 (0, 0)) (by (with_reducible repeat (first | refine blk_drewN ?_ _ | refine blk_drew ?_ | refine blk_alloc ?_ _)); refine blk_put (cs := #[.int .i64 ((rd_T30 l0 x12_1).f0), .string ((rd_T30 l0 x12_1).f1), .slice A763_2 ((rd_T30 l0 x12_1).f2).length c763_2, .string (⟨#[]⟩ : ByteArray)]) ?_ 3 _ rfl; (with_reducible repeat (first | refine blk_drewN ?_ _ | refine blk_drew ?_ | refine blk_alloc ?_ _)); refine blk_put (cs := #[.int .i64 ((rd_T30 l0 x12_1).f0), .string ((rd_T30 l0 x12_1).f1), .slice none 0 0, .string (⟨#[]⟩ : ByteArray)]) ?_ 2 _ rfl; (with_reducible repeat (first | refine blk_drewN ?_ _ | refine blk_drew ?_ | refine blk_alloc ?_ _)); refine blk_put (cs := #[.int .i64 ((rd_T30 l0 x12_1).f0), .string (⟨#[]⟩ : ByteArray), .slice none 0 0, .string (⟨#[]⟩ : ByteArray)]) ?_ 1 _ rfl; (with_reducible repeat (first | refine blk_drewN ?_ _ | refine blk_drew ?_ | refine blk_alloc ?_ _)); refine blk_put (cs := #[.int .i64 0, .string (⟨#[]⟩ : ByteArray), .slice none 0 0, .string (⟨#[]⟩ : ByteArray)]) ?_ 0 _ rfl; (with_reducible repeat (first | refine blk_drewN ?_ _ | refine blk_drew ?_ | refine blk_alloc ?_ _)); exact BK764.out) hb); have n2_ := Aside0.mk (below_step bl_ hb); clear HO_4; clear BK764; clear HB; have HO_4 := n0_; have BK764 := n1_; have HB := n2_; clear n0_ n1_ n2_; (try clear hb); (try clear hb2); (try clear hk); (try clear hi); have hcz17_0 : w16.cell? ⟨gb764, 0, none⟩ = some (.int .i64 ((rd_T30 l0 x12_1).f0)) := (blk_cell BK764.out 0).trans rfl; have hcz17_1 : w16.cell? ⟨gb764, 1, none⟩ = some (.string ((rd_T30 l0 x12_1).f1)) := (blk_cell BK764.out 1).trans rfl; have hcz17_2 : w16.cell? ⟨gb764, 2, none⟩ = some (.slice A763_2 ((rd_T30 l0 x12_1).f2).length c763_2) := (blk_cell BK764.out 2).trans rfl; have hcz17_3 : w16.cell? ⟨gb764, 3, none⟩ = some (.string ((rd_T30 l0 x12_1).f3)) := (blk_cell BK764.out 3).trans rfl; have hfz17_0 := blk_frozen BK764.out 0; have hfz17_1 := blk_frozen BK764.out 1; have hfz17_2 := blk_frozen BK764.out 2; have hfz17_3 := blk_frozen BK764.out 3; obtain ⟨Ao18, co18, eo18⟩ := Kd.R_slice HO_4.out; subst eo18) | ((with_reducible refine gate_builtin (b := .append) (xs := #[.tmp 33, .tmp 35]) rfl ?_); (try (refine gate_guard (by rfl) ?_; dsimp only)); at_builtin; refine Kd.R_append_rows k70 (w0 := w) w.heap.size rfl (.tmp 33) (.tmp 35) 28 70 (.agg #[(.int .i64 0), (.int .i64 0), (.int .i64 0), (.int .i64 0), (.int .i64 0), (.int .i64 0)]) 48 rfl Tryd.underlying28 info70 rfl (by decide) (by omega) (.slice Ao18 x4_1.length co18) x4_1 ((rd_T30 l0 x12_1).f2) _ _ _ (fun _ => True) (fun _ => False) rfl rfl ?aO ?aR (fun _ _ h => h) (fun _ h => h.elim) ?aF ?aB ?aS ?aL ?_; (case aR => repeat (first | exact (Kd.C_below HR763_2.out HB.out) | exact HR763_2.out | (with_reducible refine Kd.C_alloc ?_ _) | (with_reducible refine Kd.C_drewN ?_ _) | (with_reducible refine Kd.C_drew ?_))); (case aB => exact bl_); (case aF => exact (fun _ _ => trivial)); (case aO => exact (ra_ HO_4.out)); (case aS => exact (below_size bl_)); (case aL => have := LMc13.out; omega); intro v767 w19 ho hb hg hat; rw [← Ny766.out] at ho; have n0_ := Aside0.mk (blk_grown (g := gb764) (o := .cells #[.int .i64 ((rd_T30 l0 x12_1).f0), .string ((rd_T30 l0 x12_1).f1), .slice A763_2 ((rd_T30 l0 x12_1).f2).length c763_2, .string ((rd_T30 l0 x12_1).f3)] 30 (0, 0)) (bk_ BK764.out) hg (Kd.R_ne HO_4.out BK764.out (by decide))); have n1_ := Aside0.mk (hb); have n2_ := Aside0.mk (ho); clear BK764; clear HB; clear HO_4; have BK764 := n0_; have HB := n1_; have HO768 := n2_; clear n0_ n1_ n2_; clear ho hb hg hat; have hcz20_0 : w19.cell? ⟨gb764, 0, none⟩ = some (.int .i64 ((rd_T30 l0 x12_1).f0)) := (blk_cell BK764.out 0).trans rfl; have hcz20_1 : w19.cell? ⟨gb764, 1, none⟩ = some (.string ((rd_T30 l0 x12_1).f1)) := (blk_cell BK764.out 1).trans rfl; have hcz20_2 : w19.cell? ⟨gb764, 2, none⟩ = some (.slice A763_2 ((rd_T30 l0 x12_1).f2).length c763_2) := (blk_cell BK764.out 2).trans rfl; have hcz20_3 : w19.cell? ⟨gb764, 3, none⟩ = some (.string ((rd_T30 l0 x12_1).f3)) := (blk_cell BK764.out 3).trans rfl; have hfz20_0 := blk_frozen BK764.out 0; have hfz20_1 := blk_frozen BK764.out 1; have hfz20_2 := blk_frozen BK764.out 2; have hfz20_3 := blk_frozen BK764.out 3))
          go_roundg k1
          case measure => have := HK1.out; omega
          case rel => exact ⟨(y766), ((rd_T30 l0 x12_1).f3), (wrap64 (x12_1 + 1)), (by first | rfl | (simp; done) | (simp [*]; done)), (by first | rfl | (simp; done) | (simp [*]; done)), H', ⟨by have := HK1.out; omega⟩, ⟨ra_ HO768.out⟩, ⟨bl_⟩⟩
         ·rw [if_neg c13] at H
          exact absurd H (by simp)
        ·rw [if_neg c12] at H
         have c12b0 : (((rd_T30 l0 x12_1).f1).toList == x5_1.toList) = false := beq_eq_false_iff_ne.mpr c12
         have c12b1 : (((rd_T30 l0 x12_1).f1).toList != x5_1.toList) = true := bne_iff_ne.mpr c12
         obtain ⟨y769, hy769⟩ : ∃ y_ : List (S70), y_ = (([] : List (S70))) := ⟨_, rfl⟩
         replace H : (some (y769, false)) = some (r1, r2) := by first | (rw [hy769]; with_reducible exact H) | (have H2_ := (Option.bind_some _ _).symm.trans H; rw [hy769]; with_reducible exact H2_) | (have H2_ := (Option.bind_some _ _).symm.trans H; with_reducible exact H2_) | with_reducible exact H | (rw [hy769]; exact H) | exact H
         have Ny769 := Aside0.mk hy769
         clear hy769
         simp only [Option.some.injEq, Prod.mk.injEq] at H
         obtain ⟨rfl, rfl⟩ := H
         have p763 : 0 ≤ (x12_1 : Int) := of_decide_eq_true as_
         have q763 : x12_1 < (l0.length : Int) := of_decide_eq_true as_
         obtain ⟨ad763, A763_2, c763_2, e763, hx763_0, hx763_1, hx763_2, hx763_3, hl763_2, hi763_2⟩ := at_T30 HR0.out x12_1 p763 q763
         cases e763
         replace hx763_0 := (HB.out.cell (World.block_lt_of_cell? w _ hx763_0)).trans hx763_0
         replace hx763_1 := (HB.out.cell (World.block_lt_of_cell? w _ hx763_1)).trans hx763_1
         replace hx763_2 := (HB.out.cell (World.block_lt_of_cell? w _ hx763_2)).trans hx763_2
         replace hx763_3 := (HB.out.cell (World.block_lt_of_cell? w _ hx763_3)).trans hx763_3
         have HR763_2 := Aside0.mk hi763_2
         have HC763_2 := Aside0.mk hl763_2
         clear hi763_2 hl763_2
         replace p763 := eq_true p763
         replace q763 := eq_true q763
         go_wp2_with (first | ((with_reducible refine gate_dst (N := 7) rfl ?_); (try (refine gate_guard (by rfl) ?_; dsimp only)); refine box_event ?hg (N := 7) ?hd (cs := #[.int .i64 0, .string (⟨#[]⟩ : ByteArray), .slice none 0 0, .string (⟨#[]⟩ : ByteArray)]) (t := 30) ?hr ?_; (case hd => rfl); (case hg => rfl); (case hr => first | (go_simp; done) | (go_simp; rfl)); intro gb764 hg w21 hbox hb; have n0_ := Aside0.mk (Kd.R_below (ra_ HO_4.out) hb); have n1_ := Aside0.mk (below_step bl_ hb); have n2_ := Aside0.mk (hbox); have n3_ := Aside0.mk ((hz_ : w.heap.size ≤ gb764)); have n4_ := Aside0.mk ((hz_ : w.heap.size ≤ gb764)); clear HO_4; clear HB; have HO_4 := n0_; have HB := n1_; have BK764 := n2_; have GW764 := n3_; have GE764 := n4_; clear n0_ n1_ n2_ n3_ n4_; clear hb hbox hg; have hcz22_0 : w21.cell? ⟨gb764, 0, none⟩ = some (.int .i64 0) := (blk_cell BK764.out 0).trans rfl; have hcz22_1 : w21.cell? ⟨gb764, 1, none⟩ = some (.string (⟨#[]⟩ : ByteArray)) := (blk_cell BK764.out 1).trans rfl; have hcz22_2 : w21.cell? ⟨gb764, 2, none⟩ = some (.slice none 0 0) := (blk_cell BK764.out 2).trans rfl; have hcz22_3 : w21.cell? ⟨gb764, 3, none⟩ = some (.string (⟨#[]⟩ : ByteArray)) := (blk_cell BK764.out 3).trans rfl; have hfz22_0 := blk_frozen BK764.out 0; have hfz22_1 := blk_frozen BK764.out 1; have hfz22_2 := blk_frozen BK764.out 2; have hfz22_3 := blk_frozen BK764.out 3) | ((with_reducible refine gate_callee (f := 20) rfl ?_); refine goesL_ (some 17) rfl rfl Tryd.func20 (by kernel_rfl) rfl #[.agg #[.int .i64 ((rd_T30 l0 x12_1).f0), .string ((rd_T30 l0 x12_1).f1), .slice A763_2 ((rd_T30 l0 x12_1).f2).length c763_2, .string ((rd_T30 l0 x12_1).f3)]] rfl lm_ ?_; (with_reducible refine (impl_SegmentOk.calls k1 ((rd_T30 l0 x12_1).f0) ((rd_T30 l0 x12_1).f1) _ _ ((rd_T30 l0 x12_1).f2) ((rd_T30 l0 x12_1).f3) true _ ?side1 ?side2 ?side3 A9.out).mono ?_); (case side1 => exact Kd.C_below HR763_2.out bl_); (case side2 => exact HC763_2.out); (case side3 => exact tab_of HT.out bl_); rintro e w23 ⟨rfl, hb⟩; refine ⟨_, rfl, ?_⟩; have n0_ := Aside0.mk (Kd.R_below (by (with_reducible repeat (first | apply Kd.R_alloc | apply Kd.R_drewN | apply Kd.R_drew)); exact (Kd.R_mono (Kd.R_far (p := ⟨gb764, 3, none⟩) (Kd.R_far (p := ⟨gb764, 2, none⟩) (Kd.R_far (p := ⟨gb764, 1, none⟩) (Kd.R_far (p := ⟨gb764, 0, none⟩) (Kd.R_types HO_4.out BK764.out (by decide)) (fun _ hk => hk.2) (.int .i64 ((rd_T30 l0 x12_1).f0))) (fun _ hk => hk.2) (.string ((rd_T30 l0 x12_1).f1))) (fun _ hk => hk.2) (.slice A763_2 ((rd_T30 l0 x12_1).f2).length c763_2)) (fun _ hk => hk.2) (.string ((rd_T30 l0 x12_1).f3))) (fun _ h_ => h_.1))) hb); have n1_ := Aside0.mk (blk_below (g := gb764) (o := .cells #[.int .i64 ((rd_T30 l0 x12_1).f0), .string ((rd_T30 l0 x12_1).f1), .slice A763_2 ((rd_T30 l0 x12_1).f2).length c763_2, .string ((rd_T30 l0 x12_1).f3)] 30 (0, 0)) (by (with_reducible repeat (first | refine blk_drewN ?_ _ | refine blk_drew ?_ | refine blk_alloc ?_ _)); refine blk_put (cs := #[.int .i64 ((rd_T30 l0 x12_1).f0), .string ((rd_T30 l0 x12_1).f1), .slice A763_2 ((rd_T30 l0 x12_1).f2).length c763_2, .string (⟨#[]⟩ : ByteArray)]) ?_ 3 _ rfl; (with_reducible repeat (first | refine blk_drewN ?_ _ | refine blk_drew ?_ | refine blk_alloc ?_ _)); refine blk_put (cs := #[.int .i64 ((rd_T30 l0 x12_1).f0), .string ((rd_T30 l0 x12_1).f1), .slice none 0 0, .string (⟨#[]⟩ : ByteArray)]) ?_ 2 _ rfl; (with_reducible repeat (first | refine blk_drewN ?_ _ | refine blk_drew ?_ | refine blk_alloc ?_ _)); refine blk_put (cs := #[.int .i64 ((rd_T30 l0 x12_1).f0), .string (⟨#[]⟩ : ByteArray), .slice none 0 0, .string (⟨#[]⟩ : ByteArray)]) ?_ 1 _ rfl; (with_reducible repeat (first | refine blk_drewN ?_ _ | refine blk_drew ?_ | refine blk_alloc ?_ _)); refine blk_put (cs := #[.int .i64 0, .string (⟨#[]⟩ : ByteArray), .slice none 0 0, .string (⟨#[]⟩ : ByteArray)]) ?_ 0 _ rfl; (with_reducible repeat (first | refine blk_drewN ?_ _ | refine blk_drew ?_ | refine blk_alloc ?_ _)); exact BK764.out) hb); have n2_ := Aside0.mk (below_step bl_ hb); clear HO_4; clear BK764; clear HB; have HO_4 := n0_; have BK764 := n1_; have HB := n2_; clear n0_ n1_ n2_; (try clear hb); (try clear hb2); (try clear hk); (try clear hi); have hcz24_0 : w23.cell? ⟨gb764, 0, none⟩ = some (.int .i64 ((rd_T30 l0 x12_1).f0)) := (blk_cell BK764.out 0).trans rfl; have hcz24_1 : w23.cell? ⟨gb764, 1, none⟩ = some (.string ((rd_T30 l0 x12_1).f1)) := (blk_cell BK764.out 1).trans rfl; have hcz24_2 : w23.cell? ⟨gb764, 2, none⟩ = some (.slice A763_2 ((rd_T30 l0 x12_1).f2).length c763_2) := (blk_cell BK764.out 2).trans rfl; have hcz24_3 : w23.cell? ⟨gb764, 3, none⟩ = some (.string ((rd_T30 l0 x12_1).f3)) := (blk_cell BK764.out 3).trans rfl; have hfz24_0 := blk_frozen BK764.out 0; have hfz24_1 := blk_frozen BK764.out 1; have hfz24_2 := blk_frozen BK764.out 2; have hfz24_3 := blk_frozen BK764.out 3; obtain ⟨Ao25, co25, eo25⟩ := Kd.R_slice HO_4.out; subst eo25) | ((with_reducible refine gate_dst (N := 32) rfl ?_); (try (refine gate_guard (by rfl) ?_; dsimp only)); refine Kd.R_lit k70 _ 70 ?hg (N := 32) ?hd (xs := ([] : List (S70))) (inner := []) (ok := fun _ => True) (okp := fun _ => True) ?hr ?hp (fun _ hk => hk) trivial (Below.refl _ _) (Nat.le_refl _) (by simp) ?_; (case hd => rfl); (case hg => rfl); (case hr => first | (go_simp; done) | (go_simp; rfl)); (case hp => exact (Reps.none _ _)); intro v770 w26 ho27 hb hg_ hnew_; clear hg_ hnew_; (first | rw [← Ny769.out] at ho27 | (simp only [Int.reduceToNat] at ho27; rw [← Ny769.out] at ho27)); have n0_ := Aside0.mk (Kd.R_elder' (ra_ HO_4.out) (Kd.R_base ho27) hb); have n1_ := Aside0.mk (Kd.R_lower (Kd.R_new' ho27 (Kd.R_lt (ra_ HO_4.out))) (below_size bl_)); have n2_ := Aside0.mk (blk_below (g := gb764) (o := .cells #[.int .i64 ((rd_T30 l0 x12_1).f0), .string ((rd_T30 l0 x12_1).f1), .slice A763_2 ((rd_T30 l0 x12_1).f2).length c763_2, .string ((rd_T30 l0 x12_1).f3)] 30 (0, 0)) (bk_ BK764.out) hb); have n3_ := Aside0.mk (below_step bl_ hb); clear HO_4; clear BK764; clear HB; have HO_4 := n0_; have HO771 := n1_; have BK764 := n2_; have HB := n3_; clear n0_ n1_ n2_ n3_; clear hb ho27))
         go_ret2
         exact ⟨_, by first | rfl | (simp [errW_none, errW_some] <;> rfl) | (simp [*, errW_none, errW_some] <;> rfl), by (with_reducible repeat (first | apply Kd.R_alloc | apply Kd.R_drewN | apply Kd.R_drew)); exact Kd.R_mono HO771.out (fun _ hk => trivial), bl_⟩
       ·rw [if_neg c11] at H
        have c11b0 : (((rd_T30 l0 x12_1).f0) == (x4_1.length : Int)) = false := beq_eq_false_iff_ne.mpr c11
        have c11b1 : (((rd_T30 l0 x12_1).f0) != (x4_1.length : Int)) = true := bne_iff_ne.mpr c11
        obtain ⟨y772, hy772⟩ : ∃ y_ : List (S70), y_ = (([] : List (S70))) := ⟨_, rfl⟩
        replace H : (some (y772, false)) = some (r1, r2) := by first | (rw [hy772]; with_reducible exact H) | (have H2_ := (Option.bind_some _ _).symm.trans H; rw [hy772]; with_reducible exact H2_) | (have H2_ := (Option.bind_some _ _).symm.trans H; with_reducible exact H2_) | with_reducible exact H | (rw [hy772]; exact H) | exact H
        have Ny772 := Aside0.mk hy772
        clear hy772
        simp only [Option.some.injEq, Prod.mk.injEq] at H
        obtain ⟨rfl, rfl⟩ := H
        have p763 : 0 ≤ (x12_1 : Int) := of_decide_eq_true as_
        have q763 : x12_1 < (l0.length : Int) := of_decide_eq_true as_
        obtain ⟨ad763, A763_2, c763_2, e763, hx763_0, hx763_1, hx763_2, hx763_3, hl763_2, hi763_2⟩ := at_T30 HR0.out x12_1 p763 q763
        cases e763
        replace hx763_0 := (HB.out.cell (World.block_lt_of_cell? w _ hx763_0)).trans hx763_0
        replace hx763_1 := (HB.out.cell (World.block_lt_of_cell? w _ hx763_1)).trans hx763_1
        replace hx763_2 := (HB.out.cell (World.block_lt_of_cell? w _ hx763_2)).trans hx763_2
        replace hx763_3 := (HB.out.cell (World.block_lt_of_cell? w _ hx763_3)).trans hx763_3
        have HR763_2 := Aside0.mk hi763_2
        have HC763_2 := Aside0.mk hl763_2
        clear hi763_2 hl763_2
        replace p763 := eq_true p763
        replace q763 := eq_true q763
        go_wp2_with (first | ((with_reducible refine gate_dst (N := 7) rfl ?_); (try (refine gate_guard (by rfl) ?_; dsimp only)); refine box_event ?hg (N := 7) ?hd (cs := #[.int .i64 0, .string (⟨#[]⟩ : ByteArray), .slice none 0 0, .string (⟨#[]⟩ : ByteArray)]) (t := 30) ?hr ?_; (case hd => rfl); (case hg => rfl); (case hr => first | (go_simp; done) | (go_simp; rfl)); intro gb764 hg w28 hbox hb; have n0_ := Aside0.mk (Kd.R_below (ra_ HO_4.out) hb); have n1_ := Aside0.mk (below_step bl_ hb); have n2_ := Aside0.mk (hbox); have n3_ := Aside0.mk ((hz_ : w.heap.size ≤ gb764)); have n4_ := Aside0.mk ((hz_ : w.heap.size ≤ gb764)); clear HO_4; clear HB; have HO_4 := n0_; have HB := n1_; have BK764 := n2_; have GW764 := n3_; have GE764 := n4_; clear n0_ n1_ n2_ n3_ n4_; clear hb hbox hg; have hcz29_0 : w28.cell? ⟨gb764, 0, none⟩ = some (.int .i64 0) := (blk_cell BK764.out 0).trans rfl; have hcz29_1 : w28.cell? ⟨gb764, 1, none⟩ = some (.string (⟨#[]⟩ : ByteArray)) := (blk_cell BK764.out 1).trans rfl; have hcz29_2 : w28.cell? ⟨gb764, 2, none⟩ = some (.slice none 0 0) := (blk_cell BK764.out 2).trans rfl; have hcz29_3 : w28.cell? ⟨gb764, 3, none⟩ = some (.string (⟨#[]⟩ : ByteArray)) := (blk_cell BK764.out 3).trans rfl; have hfz29_0 := blk_frozen BK764.out 0; have hfz29_1 := blk_frozen BK764.out 1; have hfz29_2 := blk_frozen BK764.out 2; have hfz29_3 := blk_frozen BK764.out 3) | ((with_reducible refine gate_callee (f := 20) rfl ?_); refine goesL_ (some 17) rfl rfl Tryd.func20 (by kernel_rfl) rfl #[.agg #[.int .i64 ((rd_T30 l0 x12_1).f0), .string ((rd_T30 l0 x12_1).f1), .slice A763_2 ((rd_T30 l0 x12_1).f2).length c763_2, .string ((rd_T30 l0 x12_1).f3)]] rfl lm_ ?_; (with_reducible refine (impl_SegmentOk.calls k1 ((rd_T30 l0 x12_1).f0) ((rd_T30 l0 x12_1).f1) _ _ ((rd_T30 l0 x12_1).f2) ((rd_T30 l0 x12_1).f3) true _ ?side1 ?side2 ?side3 A9.out).mono ?_); (case side1 => exact Kd.C_below HR763_2.out bl_); (case side2 => exact HC763_2.out); (case side3 => exact tab_of HT.out bl_); rintro e w30 ⟨rfl, hb⟩; refine ⟨_, rfl, ?_⟩; have n0_ := Aside0.mk (Kd.R_below (by (with_reducible repeat (first | apply Kd.R_alloc | apply Kd.R_drewN | apply Kd.R_drew)); exact (Kd.R_mono (Kd.R_far (p := ⟨gb764, 3, none⟩) (Kd.R_far (p := ⟨gb764, 2, none⟩) (Kd.R_far (p := ⟨gb764, 1, none⟩) (Kd.R_far (p := ⟨gb764, 0, none⟩) (Kd.R_types HO_4.out BK764.out (by decide)) (fun _ hk => hk.2) (.int .i64 ((rd_T30 l0 x12_1).f0))) (fun _ hk => hk.2) (.string ((rd_T30 l0 x12_1).f1))) (fun _ hk => hk.2) (.slice A763_2 ((rd_T30 l0 x12_1).f2).length c763_2)) (fun _ hk => hk.2) (.string ((rd_T30 l0 x12_1).f3))) (fun _ h_ => h_.1))) hb); have n1_ := Aside0.mk (blk_below (g := gb764) (o := .cells #[.int .i64 ((rd_T30 l0 x12_1).f0), .string ((rd_T30 l0 x12_1).f1), .slice A763_2 ((rd_T30 l0 x12_1).f2).length c763_2, .string ((rd_T30 l0 x12_1).f3)] 30 (0, 0)) (by (with_reducible repeat (first | refine blk_drewN ?_ _ | refine blk_drew ?_ | refine blk_alloc ?_ _)); refine blk_put (cs := #[.int .i64 ((rd_T30 l0 x12_1).f0), .string ((rd_T30 l0 x12_1).f1), .slice A763_2 ((rd_T30 l0 x12_1).f2).length c763_2, .string (⟨#[]⟩ : ByteArray)]) ?_ 3 _ rfl; (with_reducible repeat (first | refine blk_drewN ?_ _ | refine blk_drew ?_ | refine blk_alloc ?_ _)); refine blk_put (cs := #[.int .i64 ((rd_T30 l0 x12_1).f0), .string ((rd_T30 l0 x12_1).f1), .slice none 0 0, .string (⟨#[]⟩ : ByteArray)]) ?_ 2 _ rfl; (with_reducible repeat (first | refine blk_drewN ?_ _ | refine blk_drew ?_ | refine blk_alloc ?_ _)); refine blk_put (cs := #[.int .i64 ((rd_T30 l0 x12_1).f0), .string (⟨#[]⟩ : ByteArray), .slice none 0 0, .string (⟨#[]⟩ : ByteArray)]) ?_ 1 _ rfl; (with_reducible repeat (first | refine blk_drewN ?_ _ | refine blk_drew ?_ | refine blk_alloc ?_ _)); refine blk_put (cs := #[.int .i64 0, .string (⟨#[]⟩ : ByteArray), .slice none 0 0, .string (⟨#[]⟩ : ByteArray)]) ?_ 0 _ rfl; (with_reducible repeat (first | refine blk_drewN ?_ _ | refine blk_drew ?_ | refine blk_alloc ?_ _)); exact BK764.out) hb); have n2_ := Aside0.mk (below_step bl_ hb); clear HO_4; clear BK764; clear HB; have HO_4 := n0_; have BK764 := n1_; have HB := n2_; clear n0_ n1_ n2_; (try clear hb); (try clear hb2); (try clear hk); (try clear hi); have hcz31_0 : w30.cell? ⟨gb764, 0, none⟩ = some (.int .i64 ((rd_T30 l0 x12_1).f0)) := (blk_cell BK764.out 0).trans rfl; have hcz31_1 : w30.cell? ⟨gb764, 1, none⟩ = some (.string ((rd_T30 l0 x12_1).f1)) := (blk_cell BK764.out 1).trans rfl; have hcz31_2 : w30.cell? ⟨gb764, 2, none⟩ = some (.slice A763_2 ((rd_T30 l0 x12_1).f2).length c763_2) := (blk_cell BK764.out 2).trans rfl; have hcz31_3 : w30.cell? ⟨gb764, 3, none⟩ = some (.string ((rd_T30 l0 x12_1).f3)) := (blk_cell BK764.out 3).trans rfl; have hfz31_0 := blk_frozen BK764.out 0; have hfz31_1 := blk_frozen BK764.out 1; have hfz31_2 := blk_frozen BK764.out 2; have hfz31_3 := blk_frozen BK764.out 3; obtain ⟨Ao32, co32, eo32⟩ := Kd.R_slice HO_4.out; subst eo32) | ((with_reducible refine gate_dst (N := 32) rfl ?_); (try (refine gate_guard (by rfl) ?_; dsimp only)); refine Kd.R_lit k70 _ 70 ?hg (N := 32) ?hd (xs := ([] : List (S70))) (inner := []) (ok := fun _ => True) (okp := fun _ => True) ?hr ?hp (fun _ hk => hk) trivial (Below.refl _ _) (Nat.le_refl _) (by simp) ?_; (case hd => rfl); (case hg => rfl); (case hr => first | (go_simp; done) | (go_simp; rfl)); (case hp => exact (Reps.none _ _)); intro v773 w33 ho34 hb hg_ hnew_; clear hg_ hnew_; (first | rw [← Ny772.out] at ho34 | (simp only [Int.reduceToNat] at ho34; rw [← Ny772.out] at ho34)); have n0_ := Aside0.mk (Kd.R_elder' (ra_ HO_4.out) (Kd.R_base ho34) hb); have n1_ := Aside0.mk (Kd.R_lower (Kd.R_new' ho34 (Kd.R_lt (ra_ HO_4.out))) (below_size bl_)); have n2_ := Aside0.mk (blk_below (g := gb764) (o := .cells #[.int .i64 ((rd_T30 l0 x12_1).f0), .string ((rd_T30 l0 x12_1).f1), .slice A763_2 ((rd_T30 l0 x12_1).f2).length c763_2, .string ((rd_T30 l0 x12_1).f3)] 30 (0, 0)) (bk_ BK764.out) hb); have n3_ := Aside0.mk (below_step bl_ hb); clear HO_4; clear BK764; clear HB; have HO_4 := n0_; have HO774 := n1_; have BK764 := n2_; have HB := n3_; clear n0_ n1_ n2_ n3_; clear hb ho34))
        go_ret2
        exact ⟨_, by first | rfl | (simp [errW_none, errW_some] <;> rfl) | (simp [*, errW_none, errW_some] <;> rfl), by (with_reducible repeat (first | apply Kd.R_alloc | apply Kd.R_drewN | apply Kd.R_drew)); exact Kd.R_mono HO774.out (fun _ hk => trivial), bl_⟩
      ·replace c10 := Bool.eq_false_iff.mpr c10
       subst c10
       have H1 : (some ((([] : List (S70))), false)) = some (r1, r2) := by rw [if_neg (show ¬ (false = true) by decide)] at H; exact H
       clear H
       have H := H1
       clear H1
       obtain ⟨y775, hy775⟩ : ∃ y_ : List (S70), y_ = (([] : List (S70))) := ⟨_, rfl⟩
       replace H : (some (y775, false)) = some (r1, r2) := by first | (rw [hy775]; with_reducible exact H) | (have H2_ := (Option.bind_some _ _).symm.trans H; rw [hy775]; with_reducible exact H2_) | (have H2_ := (Option.bind_some _ _).symm.trans H; with_reducible exact H2_) | with_reducible exact H | (rw [hy775]; exact H) | exact H
       have Ny775 := Aside0.mk hy775
       clear hy775
       simp only [Option.some.injEq, Prod.mk.injEq] at H
       obtain ⟨rfl, rfl⟩ := H
       have p763 : 0 ≤ (x12_1 : Int) := of_decide_eq_true as_
       have q763 : x12_1 < (l0.length : Int) := of_decide_eq_true as_
       obtain ⟨ad763, A763_2, c763_2, e763, hx763_0, hx763_1, hx763_2, hx763_3, hl763_2, hi763_2⟩ := at_T30 HR0.out x12_1 p763 q763
       cases e763
       replace hx763_0 := (HB.out.cell (World.block_lt_of_cell? w _ hx763_0)).trans hx763_0
       replace hx763_1 := (HB.out.cell (World.block_lt_of_cell? w _ hx763_1)).trans hx763_1
       replace hx763_2 := (HB.out.cell (World.block_lt_of_cell? w _ hx763_2)).trans hx763_2
       replace hx763_3 := (HB.out.cell (World.block_lt_of_cell? w _ hx763_3)).trans hx763_3
       have HR763_2 := Aside0.mk hi763_2
       have HC763_2 := Aside0.mk hl763_2
       clear hi763_2 hl763_2
       replace p763 := eq_true p763
       replace q763 := eq_true q763
       go_wp2_with (first | ((with_reducible refine gate_dst (N := 7) rfl ?_); (try (refine gate_guard (by rfl) ?_; dsimp only)); refine box_event ?hg (N := 7) ?hd (cs := #[.int .i64 0, .string (⟨#[]⟩ : ByteArray), .slice none 0 0, .string (⟨#[]⟩ : ByteArray)]) (t := 30) ?hr ?_; (case hd => rfl); (case hg => rfl); (case hr => first | (go_simp; done) | (go_simp; rfl)); intro gb764 hg w35 hbox hb; have n0_ := Aside0.mk (Kd.R_below (ra_ HO_4.out) hb); have n1_ := Aside0.mk (below_step bl_ hb); have n2_ := Aside0.mk (hbox); have n3_ := Aside0.mk ((hz_ : w.heap.size ≤ gb764)); have n4_ := Aside0.mk ((hz_ : w.heap.size ≤ gb764)); clear HO_4; clear HB; have HO_4 := n0_; have HB := n1_; have BK764 := n2_; have GW764 := n3_; have GE764 := n4_; clear n0_ n1_ n2_ n3_ n4_; clear hb hbox hg; have hcz36_0 : w35.cell? ⟨gb764, 0, none⟩ = some (.int .i64 0) := (blk_cell BK764.out 0).trans rfl; have hcz36_1 : w35.cell? ⟨gb764, 1, none⟩ = some (.string (⟨#[]⟩ : ByteArray)) := (blk_cell BK764.out 1).trans rfl; have hcz36_2 : w35.cell? ⟨gb764, 2, none⟩ = some (.slice none 0 0) := (blk_cell BK764.out 2).trans rfl; have hcz36_3 : w35.cell? ⟨gb764, 3, none⟩ = some (.string (⟨#[]⟩ : ByteArray)) := (blk_cell BK764.out 3).trans rfl; have hfz36_0 := blk_frozen BK764.out 0; have hfz36_1 := blk_frozen BK764.out 1; have hfz36_2 := blk_frozen BK764.out 2; have hfz36_3 := blk_frozen BK764.out 3) | ((with_reducible refine gate_callee (f := 20) rfl ?_); refine goesL_ (some 17) rfl rfl Tryd.func20 (by kernel_rfl) rfl #[.agg #[.int .i64 ((rd_T30 l0 x12_1).f0), .string ((rd_T30 l0 x12_1).f1), .slice A763_2 ((rd_T30 l0 x12_1).f2).length c763_2, .string ((rd_T30 l0 x12_1).f3)]] rfl lm_ ?_; (with_reducible refine (impl_SegmentOk.calls k1 ((rd_T30 l0 x12_1).f0) ((rd_T30 l0 x12_1).f1) _ _ ((rd_T30 l0 x12_1).f2) ((rd_T30 l0 x12_1).f3) false _ ?side1 ?side2 ?side3 A9.out).mono ?_); (case side1 => exact Kd.C_below HR763_2.out bl_); (case side2 => exact HC763_2.out); (case side3 => exact tab_of HT.out bl_); rintro e w37 ⟨rfl, hb⟩; refine ⟨_, rfl, ?_⟩; have n0_ := Aside0.mk (Kd.R_below (by (with_reducible repeat (first | apply Kd.R_alloc | apply Kd.R_drewN | apply Kd.R_drew)); exact (Kd.R_mono (Kd.R_far (p := ⟨gb764, 3, none⟩) (Kd.R_far (p := ⟨gb764, 2, none⟩) (Kd.R_far (p := ⟨gb764, 1, none⟩) (Kd.R_far (p := ⟨gb764, 0, none⟩) (Kd.R_types HO_4.out BK764.out (by decide)) (fun _ hk => hk.2) (.int .i64 ((rd_T30 l0 x12_1).f0))) (fun _ hk => hk.2) (.string ((rd_T30 l0 x12_1).f1))) (fun _ hk => hk.2) (.slice A763_2 ((rd_T30 l0 x12_1).f2).length c763_2)) (fun _ hk => hk.2) (.string ((rd_T30 l0 x12_1).f3))) (fun _ h_ => h_.1))) hb); have n1_ := Aside0.mk (blk_below (g := gb764) (o := .cells #[.int .i64 ((rd_T30 l0 x12_1).f0), .string ((rd_T30 l0 x12_1).f1), .slice A763_2 ((rd_T30 l0 x12_1).f2).length c763_2, .string ((rd_T30 l0 x12_1).f3)] 30 (0, 0)) (by (with_reducible repeat (first | refine blk_drewN ?_ _ | refine blk_drew ?_ | refine blk_alloc ?_ _)); refine blk_put (cs := #[.int .i64 ((rd_T30 l0 x12_1).f0), .string ((rd_T30 l0 x12_1).f1), .slice A763_2 ((rd_T30 l0 x12_1).f2).length c763_2, .string (⟨#[]⟩ : ByteArray)]) ?_ 3 _ rfl; (with_reducible repeat (first | refine blk_drewN ?_ _ | refine blk_drew ?_ | refine blk_alloc ?_ _)); refine blk_put (cs := #[.int .i64 ((rd_T30 l0 x12_1).f0), .string ((rd_T30 l0 x12_1).f1), .slice none 0 0, .string (⟨#[]⟩ : ByteArray)]) ?_ 2 _ rfl; (with_reducible repeat (first | refine blk_drewN ?_ _ | refine blk_drew ?_ | refine blk_alloc ?_ _)); refine blk_put (cs := #[.int .i64 ((rd_T30 l0 x12_1).f0), .string (⟨#[]⟩ : ByteArray), .slice none 0 0, .string (⟨#[]⟩ : ByteArray)]) ?_ 1 _ rfl; (with_reducible repeat (first | refine blk_drewN ?_ _ | refine blk_drew ?_ | refine blk_alloc ?_ _)); refine blk_put (cs := #[.int .i64 0, .string (⟨#[]⟩ : ByteArray), .slice none 0 0, .string (⟨#[]⟩ : ByteArray)]) ?_ 0 _ rfl; (with_reducible repeat (first | refine blk_drewN ?_ _ | refine blk_drew ?_ | refine blk_alloc ?_ _)); exact BK764.out) hb); have n2_ := Aside0.mk (below_step bl_ hb); clear HO_4; clear BK764; clear HB; have HO_4 := n0_; have BK764 := n1_; have HB := n2_; clear n0_ n1_ n2_; (try clear hb); (try clear hb2); (try clear hk); (try clear hi)) | ((with_reducible refine gate_dst (N := 32) rfl ?_); (try (refine gate_guard (by rfl) ?_; dsimp only)); refine Kd.R_lit k70 _ 70 ?hg (N := 32) ?hd (xs := ([] : List (S70))) (inner := []) (ok := fun _ => True) (okp := fun _ => True) ?hr ?hp (fun _ hk => hk) trivial (Below.refl _ _) (Nat.le_refl _) (by simp) ?_; (case hd => rfl); (case hg => rfl); (case hr => first | (go_simp; done) | (go_simp; rfl)); (case hp => exact (Reps.none _ _)); intro v776 w38 ho39 hb hg_ hnew_; clear hg_ hnew_; (first | rw [← Ny775.out] at ho39 | (simp only [Int.reduceToNat] at ho39; rw [← Ny775.out] at ho39)); have n0_ := Aside0.mk (Kd.R_elder' (ra_ HO_4.out) (Kd.R_base ho39) hb); have n1_ := Aside0.mk (Kd.R_lower (Kd.R_new' ho39 (Kd.R_lt (ra_ HO_4.out))) (below_size bl_)); have n2_ := Aside0.mk (blk_below (g := gb764) (o := .cells #[.int .i64 ((rd_T30 l0 x12_1).f0), .string ((rd_T30 l0 x12_1).f1), .slice A763_2 ((rd_T30 l0 x12_1).f2).length c763_2, .string ((rd_T30 l0 x12_1).f3)] 30 (0, 0)) (bk_ BK764.out) hb); have n3_ := Aside0.mk (below_step bl_ hb); clear HO_4; clear BK764; clear HB; have HO_4 := n0_; have HO777 := n1_; have BK764 := n2_; have HB := n3_; clear n0_ n1_ n2_ n3_; clear hb ho39))
       go_ret2
       exact ⟨_, by first | rfl | (simp [errW_none, errW_some] <;> rfl) | (simp [*, errW_none, errW_some] <;> rfl), by (with_reducible repeat (first | apply Kd.R_alloc | apply Kd.R_drewN | apply Kd.R_drew)); exact Kd.R_mono HO777.out (fun _ hk => trivial), bl_⟩
     ·rw [if_neg c8] at H
      exact absurd H (by simp)
    ·rw [if_neg c7] at H
     exact absurd H (by simp)
   ·rw [if_neg c6] at H
    have c6b0 : decide (x12_1 < (l0.length : Int)) = false := decide_eq_false c6
    clear c6
    simp only [Option.some.injEq, Prod.mk.injEq] at H
    obtain ⟨rfl, rfl⟩ := H
    go_wp2
    go_ret2
    exact ⟨_, by first | rfl | (simp [errW_none, errW_some] <;> rfl) | (simp [*, errW_none, errW_some] <;> rfl), ra_ HO_4.out, bl_⟩


/-! ### spec_DrawPlaces: function 58 -/
def spec_DrawPlaces.l0 : Nat → List Int → Int → List Int → Int → Int → Option (List Int)
 | 0, _, _, _, _, _ => none
 | k + 1, x4, x5, x1091000, x1091001, x1091002 => if x5 < 12 then ((spec_l01Below.f x1091000 x1091001 x1091002 10000).bind fun bt1097 => (if x4.length < 17592186044416 then (spec_DrawPlaces.l0 k (x4 ++ [bt1097.1]) (wrap64 (x5 + 1)) x1091000 bt1097.2.1 bt1097.2.2) else (none))) else (some x4)
def spec_DrawPlaces.f (k : Nat) (l0 : List Int) : Option (List Int) := (spec_l01New.f k l0).bind fun bt1087 => ((spec_l01Byte.f bt1087.1 bt1087.2.1 bt1087.2.2).bind fun bt1091 => (spec_DrawPlaces.l0 k (([] : List Int)) 0 bt1087.1 bt1091.2.1 bt1091.2.2))
theorem spec_DrawPlaces.mono_l : ∀ k, (∀ y0 y1 y2 y3 y4, LeO (spec_DrawPlaces.l0 k y0 y1 y2 y3 y4) (spec_DrawPlaces.l0 (k + 1) y0 y1 y2 y3 y4))
 | 0 => fun _ _ _ _ _ r h => by simp [spec_DrawPlaces.l0] at h
 | k + 1 => by
  have ih0 := spec_DrawPlaces.mono_l k
  ·intro y0 y1 y2 y3 y4
   unfold spec_DrawPlaces.l0
   repeat' first
   | (with_reducible exact ih0 _ _ _ _ _)
   | (with_reducible exact spec_l01New.mono _ _)
   | (with_reducible exact LeO.refl _)
   | (with_reducible exact LeO.none _)
   | (with_reducible refine LeO.ite ?_ ?_)
   | (with_reducible refine LeO.bind ?_ (fun _ => ?_))
   | exact ih0 _ _ _ _ _
   | exact spec_l01New.mono _ _
   | exact LeO.none _
   | refine LeO.ite ?_ ?_
   | refine LeO.bind ?_ (fun _ => ?_)
theorem spec_DrawPlaces.mono : ∀ a0 k, LeO (spec_DrawPlaces.f k a0) (spec_DrawPlaces.f (k + 1) a0) := by
 intro a0 k
 have ih0 := spec_DrawPlaces.mono_l k
 unfold spec_DrawPlaces.f
 repeat' first
  | (with_reducible exact ih0 _ _ _ _ _)
  | (with_reducible exact spec_l01New.mono _ _)
  | (with_reducible exact LeO.refl _)
  | (with_reducible exact LeO.none _)
  | (with_reducible refine LeO.ite ?_ ?_)
  | (with_reducible refine LeO.bind ?_ (fun _ => ?_))
  | exact ih0 _ _ _ _ _
  | exact spec_l01New.mono _ _
  | exact LeO.none _
  | refine LeO.ite ?_ ?_
  | refine LeO.bind ?_ (fun _ => ?_)
set_option maxHeartbeats 8000000 in
set_option maxRecDepth 100000 in
theorem spec_DrawPlaces.calls (k : Nat) (A0 : Option Addr) (c0 : Nat) (l0 : List Int) (r : List Int) (w : World) (hr0 : Kd.C (Kd.int .u8) w A0 l0.length l0) (hc0 : l0.length ≤ c0) (h : spec_DrawPlaces.f k l0 = some r) :
 Calls Tryd.prog 58 #[.slice A0 l0.length c0] w fun e w' => ∃ v0_ : Value, e = .returned (v0_) ∧ Kd.R (Kd.int .i64) 3 w' w.heap.size (fun _ => True) v0_ r ∧ Below w.heap.size w w' := by
 have HR0 := Aside0.mk hr0
 have HC0 := Aside0.mk hc0
 clear hr0 hc0
 have HB := Aside0.mk (Below.refl w.heap.size w)
 have H : ((spec_l01New.f k l0).bind fun bt1087 => ((spec_l01Byte.f bt1087.1 bt1087.2.1 bt1087.2.2).bind fun bt1091 => (spec_DrawPlaces.l0 k (([] : List Int)) 0 bt1087.1 bt1091.2.1 bt1091.2.2))) = some r := h
 clear h
 replace H := Option.bind_eq_some_iff.mp H
 obtain ⟨⟨t1087, t1088, t1089⟩, A20, H⟩ := H
 replace H : ((spec_l01Byte.f t1087 t1088 t1089).bind fun bt1091 => (spec_DrawPlaces.l0 k (([] : List Int)) 0 t1087 bt1091.2.1 bt1091.2.2)) = some r := H
 have A2 := Aside0.mk A20
 clear A20
 replace H := Option.bind_eq_some_iff.mp H
 obtain ⟨⟨t1091, t1092, t1093⟩, A30, H⟩ := H
 replace H : (spec_DrawPlaces.l0 k (([] : List Int)) 0 t1087 t1092 t1093) = some r := H
 have A3 := Aside0.mk A30
 clear A30
 obtain ⟨y1094, hy1094⟩ : ∃ y_ : List Int, y_ = (([] : List Int)) := ⟨_, rfl⟩
 replace H : (spec_DrawPlaces.l0 k y1094 0 t1087 t1092 t1093) = some r := by first | (rw [hy1094]; with_reducible exact H) | (have H2_ := (Option.bind_some _ _).symm.trans H; rw [hy1094]; with_reducible exact H2_) | (have H2_ := (Option.bind_some _ _).symm.trans H; with_reducible exact H2_) | with_reducible exact H | (rw [hy1094]; exact H) | exact H
 have Ny1094 := Aside0.mk hy1094
 clear hy1094
 have H' := Aside0.mk H
 clear H
 go_enter Tryd.func58, Tryd.ntmps58
 go_wp2_with (first | ((with_reducible refine gate_callee (f := 94) rfl ?_); refine goesL_ (some 7) rfl rfl Tryd.func94 (by kernel_rfl) rfl #[.slice A0 l0.length c0] rfl lm_ ?_; (with_reducible refine (spec_l01New.calls k _ _ l0 t1087 t1088 t1089 w _ ?side1 ?side2 ?side3 A2.out).mono ?_); (case side1 => repeat (first | (with_reducible first | exact HB.out | apply below_alloc | apply pw_below_drewN | apply below_drew1) | exact HB.out)); (case side2 => exact HR0.out); (case side3 => exact HC0.out); rintro e w4 ⟨g1090, rfl, hi, hb, hb2⟩; refine ⟨_, rfl, ?_⟩; have n0_ := Aside0.mk (hb); have n1_ := Aside0.mk (hi); clear HB; have HB := n0_; have HI1090 := n1_; clear n0_ n1_; (try clear hb); (try clear hb2); (try clear hk); (try clear hi)) | ((with_reducible refine gate_callee (f := 104) rfl ?_); refine goesL_ (some 9) rfl rfl Tryd.func104 (by kernel_rfl) rfl #[.pointer (some ⟨g1090, 0, none⟩)] rfl lm_ ?_; (with_reducible refine (spec_l01Byte.calls g1090 t1087 t1088 t1089 t1091 t1092 t1093 w _ ?side1 ?side2 A3.out).mono ?_); (case side1 => repeat (first | (with_reducible first | exact HI1090.out | apply IsS130.alloc | apply IsS130.drewN | apply IsS130.drew | apply IsS130.set_1 | apply IsS130.set_2) | exact HI1090.out)); (case side2 => repeat (first | (with_reducible first | exact HB.out | apply below_alloc | apply pw_below_drewN | apply below_drew1 | refine below_set ?_ (IsS130.ge HI1090.out)) | exact HB.out)); rintro e w5 ⟨rfl, hi, hb, hk⟩; refine ⟨_, rfl, ?_⟩; have n0_ := Aside0.mk (hb); have n1_ := Aside0.mk (hi); clear HB; clear HI1090; have HB := n0_; have HI1090 := n1_; clear n0_ n1_; (try clear hb); (try clear hb2); (try clear hk); (try clear hi)) | ((with_reducible refine gate_dst (N := 10) rfl ?_); refine Kd.R_lit (Kd.int .i64) _ 3 ?hg (N := 10) ?hd (xs := ([] : List Int)) (inner := []) (ok := fun _ => True) (okp := fun _ => True) ?hr ?hp (fun _ hk => hk) trivial (Below.refl _ _) (Nat.le_refl _) (by simp) ?_; (case hd => rfl); (case hg => rfl); (case hr => first | (go_simp; done) | (go_simp; rfl)); (case hp => exact (Reps.none _ _)); intro v1095 w6 ho7 hb hg_ hnew_; clear hg_ hnew_; (first | rw [← Ny1094.out] at ho7 | (simp only [Int.reduceToNat] at ho7; rw [← Ny1094.out] at ho7)); have n0_ := Aside0.mk (Kd.R_lower ho7 (below_size (by repeat (first | (with_reducible first | exact HB.out | apply below_alloc | apply pw_below_drewN | apply below_drew1 | refine below_set ?_ (IsS130.ge HI1090.out)) | exact HB.out)))); have n1_ := Aside0.mk (IsS130.below (by repeat (first | (with_reducible first | exact HI1090.out | apply IsS130.alloc | apply IsS130.drewN | apply IsS130.drew | apply IsS130.set_1 | apply IsS130.set_2) | exact HI1090.out)) hb); have n2_ := Aside0.mk (below_step (by repeat (first | (with_reducible first | exact HB.out | apply below_alloc | apply pw_below_drewN | apply below_drew1 | refine below_set ?_ (IsS130.ge HI1090.out)) | exact HB.out)) hb); clear HI1090; clear HB; have HO1096 := n0_; have HI1090 := n1_; have HB := n2_; clear n0_ n1_ n2_; clear hb ho7))
 go_loopg [4, 5] k (fun kq v4 v5 w' => ∃ (x4_1 : List Int) (x5_1 : Int) (x1091001_1 : Int) (x1091002_1 : Int), v5 = .int .i64 x5_1 ∧ Aside0 (spec_DrawPlaces.l0 kq x4_1 x5_1 t1087 x1091001_1 x1091002_1 = some r) ∧ Aside0 (kq ≤ k) ∧ Aside0 (Kd.R (Kd.int .i64) 3 w' w.heap.size (fun _ => True) v4 x4_1) ∧ Aside0 (IsS130 w w' g1090 t1087 x1091001_1 x1091002_1) ∧ Aside0 (Below w.heap.size w w'))
 case atStart => exact ⟨(y1094), (0), (t1092), (t1093), (by first | rfl | (simp; done) | (simp [*]; done)), H', ⟨Nat.le_refl _⟩, ⟨ra_ HO1096.out⟩, ⟨by repeat (first | (with_reducible first | exact HI1090.out | apply IsS130.alloc | apply IsS130.drewN | apply IsS130.drew | apply IsS130.set_1 | apply IsS130.set_2) | exact HI1090.out)⟩, ⟨by repeat (first | (with_reducible first | exact HB.out | apply below_alloc | apply pw_below_drewN | apply below_drew1 | refine below_set ?_ (IsS130.ge HI1090.out)) | exact HB.out)⟩⟩
 case round =>
  clear H'
  try clear c1
  try clear p2
  try clear c5
  obtain ⟨x4_1, x5_1, x1091001_1, x1091002_1, rfl, HA, HK1, HO_4, HI1090, HB⟩ := hrel
  cases gk with
  | zero => exact absurd HA.out (by simp [spec_DrawPlaces.l0])
  | succ k1 =>
   have H := HA.out
   clear HA
   simp only [spec_DrawPlaces.l0] at H
   by_cases c8 : x5_1 < 12
   ·rw [if_pos c8] at H
    have c8b0 : decide (x5_1 < 12) = true := decide_eq_true c8
    clear c8
    replace H := Option.bind_eq_some_iff.mp H
    obtain ⟨⟨t1097, t1098, t1099⟩, A90, H⟩ := H
    replace H : (if x4_1.length < 17592186044416 then (spec_DrawPlaces.l0 k1 (x4_1 ++ [t1097]) (wrap64 (x5_1 + 1)) t1087 t1098 t1099) else (none)) = some r := H
    have A9 := Aside0.mk A90
    clear A90
    by_cases c10 : x4_1.length < 17592186044416
    ·rw [if_pos c10] at H
     have LMc10 := Aside0.mk c10
     clear c10
     obtain ⟨y1100, hy1100⟩ : ∃ y_ : List Int, y_ = (x4_1 ++ [t1097]) := ⟨_, rfl⟩
     replace H : (spec_DrawPlaces.l0 k1 y1100 (wrap64 (x5_1 + 1)) t1087 t1098 t1099) = some r := by first | (rw [hy1100]; with_reducible exact H) | (have H2_ := (Option.bind_some _ _).symm.trans H; rw [hy1100]; with_reducible exact H2_) | (have H2_ := (Option.bind_some _ _).symm.trans H; with_reducible exact H2_) | with_reducible exact H | (rw [hy1100]; exact H) | exact H
     have Ny1100 := Aside0.mk hy1100
     clear hy1100
     have H' := Aside0.mk H
     clear H
     go_wp2_with (first | ((with_reducible refine gate_callee (f := 105) rfl ?_); refine goesL_ (some 17) rfl rfl Tryd.func105 (by kernel_rfl) rfl #[.pointer (some ⟨g1090, 0, none⟩), .int .i64 10000] rfl lm_ ?_; (with_reducible refine (spec_l01Below.calls g1090 t1087 x1091001_1 x1091002_1 10000 t1097 t1098 t1099 w _ ?side1 ?side2 A9.out).mono ?_); (case side1 => repeat (first | (with_reducible first | exact HI1090.out | apply IsS130.alloc | apply IsS130.drewN | apply IsS130.drew | apply IsS130.set_1 | apply IsS130.set_2) | exact HI1090.out)); (case side2 => repeat (first | (with_reducible first | exact HB.out | apply below_alloc | apply pw_below_drewN | apply below_drew1 | refine below_set ?_ (IsS130.ge HI1090.out)) | exact HB.out)); rintro e w11 ⟨rfl, hi, hb, hk⟩; refine ⟨_, rfl, ?_⟩; have n0_ := Aside0.mk (Kd.R_mono (Kd.R_keep (IsS130.apart (show IsS130 w _ g1090 t1087 x1091001_1 x1091002_1 from by repeat (first | (with_reducible first | exact HI1090.out | apply IsS130.alloc | apply IsS130.drewN | apply IsS130.drew | apply IsS130.set_1 | apply IsS130.set_2) | exact HI1090.out)) (ra_ HO_4.out) (by decide)) hk (fun _ h => h.2)) (fun _ h => h.1)); have n1_ := Aside0.mk (hb); have n2_ := Aside0.mk (hi); clear HO_4; clear HB; clear HI1090; have HO_4 := n0_; have HB := n1_; have HI1090 := n2_; clear n0_ n1_ n2_; (try clear hb); (try clear hb2); (try clear hk); (try clear hi)) | ((with_reducible refine gate_builtin (b := .append) (xs := #[.tmp 15, .tmp 18]) rfl ?_); at_builtin; refine Kd.R_append (Kd.int .i64) (w0 := w) w.heap.size rfl (.tmp 15) (.tmp 18) 74 3 (.int .i64 0) 8 rfl Tryd.underlying74 info3 rfl (by decide) (by omega) u4 x4_1 t1097 [.int .i64 t1097] (fun _ => True) (fun _ => False) rfl rfl ?aP (fun _ hk => hk.elim) ?aF ?aO ?aB ?aS ?aL ?_; (case aP => exact rfl); (case aB => exact (by repeat (first | (with_reducible first | exact HB.out | apply below_alloc | apply pw_below_drewN | apply below_drew1 | refine below_set ?_ (IsS130.ge HI1090.out)) | exact HB.out))); (case aF => exact (fun _ _ => trivial)); (case aO => exact (ra_ HO_4.out)); (case aS => exact (below_size (by repeat (first | (with_reducible first | exact HB.out | apply below_alloc | apply pw_below_drewN | apply below_drew1 | refine below_set ?_ (IsS130.ge HI1090.out)) | exact HB.out)))); (case aL => have := LMc10.out; omega); intro v1101 w12 ho hb hg hat; rw [← Ny1100.out] at ho; have n0_ := Aside0.mk (IsS130.grown (by repeat (first | (with_reducible first | exact HI1090.out | apply IsS130.alloc | apply IsS130.drewN | apply IsS130.drew | apply IsS130.set_1 | apply IsS130.set_2) | exact HI1090.out)) hg (IsS130.own_ne HI1090.out HO_4.out (by decide))); have n1_ := Aside0.mk (hb); have n2_ := Aside0.mk (ho); clear HI1090; clear HB; clear HO_4; have HI1090 := n0_; have HB := n1_; have HO1102 := n2_; clear n0_ n1_ n2_; clear ho hb hg hat))
     go_roundg k1
     case measure => have := HK1.out; omega
     case rel => exact ⟨(y1100), (wrap64 (x5_1 + 1)), (t1098), (t1099), (by first | rfl | (simp; done) | (simp [*]; done)), H', ⟨by have := HK1.out; omega⟩, ⟨ra_ HO1102.out⟩, ⟨by repeat (first | (with_reducible first | exact HI1090.out | apply IsS130.alloc | apply IsS130.drewN | apply IsS130.drew | apply IsS130.set_1 | apply IsS130.set_2) | exact HI1090.out)⟩, ⟨by repeat (first | (with_reducible first | exact HB.out | apply below_alloc | apply pw_below_drewN | apply below_drew1 | refine below_set ?_ (IsS130.ge HI1090.out)) | exact HB.out)⟩⟩
    ·rw [if_neg c10] at H
     exact absurd H (by simp)
   ·rw [if_neg c8] at H
    have c8b0 : decide (x5_1 < 12) = false := decide_eq_false c8
    clear c8
    obtain rfl := Option.some.inj H
    go_wp2
    go_ret
    exact ⟨_, by first | rfl | (simp [errW_none, errW_some] <;> rfl) | (simp [*, errW_none, errW_some] <;> rfl), ra_ HO_4.out, by repeat (first | (with_reducible first | exact HB.out | apply below_alloc | apply pw_below_drewN | apply below_drew1 | refine below_set ?_ (IsS130.ge HI1090.out)) | exact HB.out)⟩

end Go.Proofs.YtdhjolglbcoijaaDoor.PA

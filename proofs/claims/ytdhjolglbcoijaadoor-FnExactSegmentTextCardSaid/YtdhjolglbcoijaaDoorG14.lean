/- Contracts of functions of the program and of the reference, and plain lemmas on what they compute. No condition. -/
import Derived.Test.YtdhjolglbcoijaaDoorG1
import Derived.Test.YtdhjolglbcoijaaDoorG2
import Derived.Test.YtdhjolglbcoijaaDoorG5
import Derived.Test.YtdhjolglbcoijaaDoorG11
import Derived.Test.YtdhjolglbcoijaaDoorShort
namespace Go.Proofs.YtdhjolglbcoijaaDoor.PA
open Go.RowKit Go.Proofs.YtdhjolglbcoijaaDoor.Short Go.Proofs.YtdhjolglbcoijaaDoorW.PrintWords Go.Proofs.YtdhjolglbcoijaaDoorW.PrintLast Go.Proofs.YtdhjolglbcoijaaDoorW.PrintMore
attribute [local go_sem] max2_int min2_int max_two min_two max_three min_three max_four min_four   -- for this text's walks alone
set_option linter.unusedVariables false
set_option linter.unusedSimpArgs false

/-! ### impl_SegmentText: function 23 -/
def impl_SegmentText.j0 : Nat → ByteArray → Bool → Int → ByteArray → List (S70) → ByteArray → Option (ByteArray × Bool)
 | 0, _, _, _, _, _, _ => none
 | k + 1, x4, x27, x425000, x425001, x425002, x425003 => if x27 = true then (some ((⟨#[]⟩ : ByteArray), false)) else ((impl_VarText.f k x425000).bind fun bt428 => ((impl_ShortText.f k x4).bind fun bt430 => (if bt428.1.size + x425001.size ≤ 9223372036854775807 then (if (bt428.1 ++ x425001).size + bt430.1.size ≤ 9223372036854775807 then ((impl_Sealed.f k ((bt428.1 ++ x425001) ++ bt430.1)).bind fun bt432 => (some (bt432.1, bt432.2))) else (none)) else (none))))
def impl_SegmentText.f (k : Nat) (a0_0 : Int) (a0_1 : ByteArray) (l0_2 : List (S70)) (a0_3 : ByteArray) : Option (ByteArray × Bool) := (impl_LogText.f k l0_2).bind fun bt425 => ((impl_SegmentOk.f k a0_0 a0_1 l0_2 a0_3).bind fun t427 => (if t427 = true then (if bt425.2 = true then (impl_SegmentText.j0 k bt425.1 (decide ((bt425.1.size : Int) > 15000)) a0_0 a0_1 l0_2 a0_3) else (impl_SegmentText.j0 k bt425.1 true a0_0 a0_1 l0_2 a0_3)) else (impl_SegmentText.j0 k bt425.1 true a0_0 a0_1 l0_2 a0_3)))
theorem impl_SegmentText.mono_l : ∀ k, (∀ y0 y1 y2 y3 y4 y5, LeO (impl_SegmentText.j0 k y0 y1 y2 y3 y4 y5) (impl_SegmentText.j0 (k + 1) y0 y1 y2 y3 y4 y5))
 | 0 => fun _ _ _ _ _ _ r h => by simp [impl_SegmentText.j0] at h
 | k + 1 => by
  have ih0 := impl_SegmentText.mono_l k
  ·intro y0 y1 y2 y3 y4 y5
   unfold impl_SegmentText.j0
   repeat' first
   | (with_reducible exact ih0 _ _ _ _ _ _)
   | (with_reducible exact impl_LogText.mono _ _)
   | (with_reducible exact impl_Sealed.mono _ _)
   | (with_reducible exact impl_SegmentOk.mono _ _ _ _ _)
   | (with_reducible exact impl_ShortText.mono _ _)
   | (with_reducible exact impl_VarText.mono _ _)
   | (with_reducible exact LeO.refl _)
   | (with_reducible exact LeO.none _)
   | (with_reducible refine LeO.ite ?_ ?_)
   | (with_reducible refine LeO.bind ?_ (fun _ => ?_))
   | exact ih0 _ _ _ _ _ _
   | exact impl_LogText.mono _ _
   | exact impl_Sealed.mono _ _
   | exact impl_SegmentOk.mono _ _ _ _ _
   | exact impl_ShortText.mono _ _
   | exact impl_VarText.mono _ _
   | exact LeO.none _
   | refine LeO.ite ?_ ?_
   | refine LeO.bind ?_ (fun _ => ?_)
theorem impl_SegmentText.mono : ∀ a0 a1 a2 a3 k, LeO (impl_SegmentText.f k a0 a1 a2 a3) (impl_SegmentText.f (k + 1) a0 a1 a2 a3) := by
 intro a0 a1 a2 a3 k
 have ih0 := impl_SegmentText.mono_l k
 unfold impl_SegmentText.f
 repeat' first
  | (with_reducible exact ih0 _ _ _ _ _ _)
  | (with_reducible exact impl_LogText.mono _ _)
  | (with_reducible exact impl_Sealed.mono _ _)
  | (with_reducible exact impl_SegmentOk.mono _ _ _ _ _)
  | (with_reducible exact impl_ShortText.mono _ _)
  | (with_reducible exact impl_VarText.mono _ _)
  | (with_reducible exact LeO.refl _)
  | (with_reducible exact LeO.none _)
  | (with_reducible refine LeO.ite ?_ ?_)
  | (with_reducible refine LeO.bind ?_ (fun _ => ?_))
  | exact ih0 _ _ _ _ _ _
  | exact impl_LogText.mono _ _
  | exact impl_Sealed.mono _ _
  | exact impl_SegmentOk.mono _ _ _ _ _
  | exact impl_ShortText.mono _ _
  | exact impl_VarText.mono _ _
  | exact LeO.none _
  | refine LeO.ite ?_ ?_
  | refine LeO.bind ?_ (fun _ => ?_)
set_option maxHeartbeats 8000000 in
set_option maxRecDepth 100000 in
theorem impl_SegmentText.calls (k : Nat) (a0_0 : Int) (a0_1 : ByteArray) (A0_2 : Option Addr) (c0_2 : Nat) (l0_2 : List (S70)) (a0_3 : ByteArray) (r1 : ByteArray) (r2 : Bool) (w : World) (hr0_2 : Kd.C k70 w A0_2 l0_2.length l0_2) (hc0_2 : l0_2.length ≤ c0_2) (hT : Tab w) (h : impl_SegmentText.f k a0_0 a0_1 l0_2 a0_3 = some (r1, r2)) :
 Calls Tryd.prog 23 #[.agg #[.int .i64 a0_0, .string a0_1, .slice A0_2 l0_2.length c0_2, .string a0_3]] w fun e w' => e = .returned (.tuple #[.string r1, .bool r2]) ∧ Below w.heap.size w w' := by
 have hu30 := Tryd.underlying30
 have HR0_2 := Aside0.mk hr0_2
 have HC0_2 := Aside0.mk hc0_2
 clear hr0_2 hc0_2
 have HT := Aside0.mk hT
 clear hT
 have HB := Aside0.mk (Below.refl w.heap.size w)
 have H : ((impl_LogText.f k l0_2).bind fun bt425 => ((impl_SegmentOk.f k a0_0 a0_1 l0_2 a0_3).bind fun t427 => (if t427 = true then (if bt425.2 = true then (impl_SegmentText.j0 k bt425.1 (decide ((bt425.1.size : Int) > 15000)) a0_0 a0_1 l0_2 a0_3) else (impl_SegmentText.j0 k bt425.1 true a0_0 a0_1 l0_2 a0_3)) else (impl_SegmentText.j0 k bt425.1 true a0_0 a0_1 l0_2 a0_3)))) = some (r1, r2) := h
 clear h
 replace H := Option.bind_eq_some_iff.mp H
 obtain ⟨⟨t425, t426⟩, A20, H⟩ := H
 replace H : ((impl_SegmentOk.f k a0_0 a0_1 l0_2 a0_3).bind fun t427 => (if t427 = true then (if t426 = true then (impl_SegmentText.j0 k t425 (decide ((t425.size : Int) > 15000)) a0_0 a0_1 l0_2 a0_3) else (impl_SegmentText.j0 k t425 true a0_0 a0_1 l0_2 a0_3)) else (impl_SegmentText.j0 k t425 true a0_0 a0_1 l0_2 a0_3))) = some (r1, r2) := H
 have A2 := Aside0.mk A20
 clear A20
 have HC3 := Aside0.mk H
 clear H
 go_enter Tryd.func23, Tryd.ntmps23
 go_upto_region 2 with (first | ((with_reducible refine gate_dst (N := 1) rfl ?_); (try (refine gate_guard (by rfl) ?_; dsimp only)); refine box_event ?hg (N := 1) ?hd (cs := #[.int .i64 a0_0, .string a0_1, .slice A0_2 l0_2.length c0_2, .string a0_3]) (t := 30) ?hr ?_; (case hd => rfl); (case hg => rfl); (case hr => first | (go_simp; done) | (go_simp; rfl)); intro gb424 hg w4 hbox hb; have n0_ := Aside0.mk (below_step bl_ hb); have n1_ := Aside0.mk (hbox); have n2_ := Aside0.mk ((hz_ : w.heap.size ≤ gb424)); have n3_ := Aside0.mk ((hz_ : w.heap.size ≤ gb424)); clear HB; have HB := n0_; have BK424 := n1_; have GW424 := n2_; have GE424 := n3_; clear n0_ n1_ n2_ n3_; clear hb hbox hg; have hcz5_0 : w4.cell? ⟨gb424, 0, none⟩ = some (.int .i64 a0_0) := (blk_cell BK424.out 0).trans rfl; have hcz5_1 : w4.cell? ⟨gb424, 1, none⟩ = some (.string a0_1) := (blk_cell BK424.out 1).trans rfl; have hcz5_2 : w4.cell? ⟨gb424, 2, none⟩ = some (.slice A0_2 l0_2.length c0_2) := (blk_cell BK424.out 2).trans rfl; have hcz5_3 : w4.cell? ⟨gb424, 3, none⟩ = some (.string a0_3) := (blk_cell BK424.out 3).trans rfl; have hfz5_0 := blk_frozen BK424.out 0; have hfz5_1 := blk_frozen BK424.out 1; have hfz5_2 := blk_frozen BK424.out 2; have hfz5_3 := blk_frozen BK424.out 3) | ((with_reducible refine gate_callee (f := 60) rfl ?_); refine goesL_ (some 13) rfl rfl Tryd.func60 (by kernel_rfl) rfl #[.slice A0_2 l0_2.length c0_2] rfl lm_ ?_; (with_reducible refine (impl_LogText.calls k _ _ l0_2 t425 t426 _ ?side1 ?side2 A2.out).mono ?_); (case side1 => repeat (first | exact (Kd.C_below HR0_2.out HB.out) | exact HR0_2.out | (with_reducible refine Kd.C_alloc ?_ _) | (with_reducible refine Kd.C_drewN ?_ _) | (with_reducible refine Kd.C_drew ?_))); (case side2 => exact HC0_2.out); rintro e w6 ⟨rfl, hb⟩; refine ⟨_, rfl, ?_⟩; have n0_ := Aside0.mk (blk_below (g := gb424) (o := .cells #[.int .i64 a0_0, .string a0_1, .slice A0_2 l0_2.length c0_2, .string a0_3] 30 (0, 0)) (bk_ BK424.out) hb); have n1_ := Aside0.mk (below_step bl_ hb); clear BK424; clear HB; have BK424 := n0_; have HB := n1_; clear n0_ n1_; (try clear hb); (try clear hb2); (try clear hk); (try clear hi)))
 (try simp only [Act.put, List.setIfInBounds_toArray, List.set_cons_zero, List.set_cons_succ])
 go_cut [27] (fun v27 wc => ∃ (kq : Nat) (x27_2 : Bool), v27 = .bool x27_2 ∧ Aside0 (impl_SegmentText.j0 kq t425 x27_2 a0_0 a0_1 l0_2 a0_3 = some (r1, r2)) ∧ Aside0 (kq ≤ k) ∧ Aside0 (wc.heap[gb424]? = some (.cells #[.int .i64 a0_0, .string a0_1, (.slice A0_2 l0_2.length c0_2), .string a0_3] 30 (0, 0))) ∧ Aside0 (Below w.heap.size w wc))
 case first =>
  have H := HC3.out
  clear HC3
  replace H := Option.bind_eq_some_iff.mp H
  obtain ⟨t427, A70, H⟩ := H
  replace H : (if t427 = true then (if t426 = true then (impl_SegmentText.j0 k t425 (decide ((t425.size : Int) > 15000)) a0_0 a0_1 l0_2 a0_3) else (impl_SegmentText.j0 k t425 true a0_0 a0_1 l0_2 a0_3)) else (impl_SegmentText.j0 k t425 true a0_0 a0_1 l0_2 a0_3)) = some (r1, r2) := H
  have A7 := Aside0.mk A70
  clear A70
  by_cases c8 : t427 = true
  ·subst c8
   have H1 : (if t426 = true then (impl_SegmentText.j0 k t425 (decide ((t425.size : Int) > 15000)) a0_0 a0_1 l0_2 a0_3) else (impl_SegmentText.j0 k t425 true a0_0 a0_1 l0_2 a0_3)) = some (r1, r2) := by rw [if_pos rfl] at H; exact H
   clear H
   have H := H1
   clear H1
   by_cases c9 : t426 = true
   ·subst c9
    have H1 : (impl_SegmentText.j0 k t425 (decide ((t425.size : Int) > 15000)) a0_0 a0_1 l0_2 a0_3) = some (r1, r2) := by rw [if_pos rfl] at H; exact H
    clear H
    have H := H1
    clear H1
    have H' := Aside0.mk H
    clear H
    have hcz10_0 : w6.cell? ⟨gb424, 0, none⟩ = some (.int .i64 a0_0) := (blk_cell BK424.out 0).trans rfl
    have hcz10_1 : w6.cell? ⟨gb424, 1, none⟩ = some (.string a0_1) := (blk_cell BK424.out 1).trans rfl
    have hcz10_2 : w6.cell? ⟨gb424, 2, none⟩ = some (.slice A0_2 l0_2.length c0_2) := (blk_cell BK424.out 2).trans rfl
    have hcz10_3 : w6.cell? ⟨gb424, 3, none⟩ = some (.string a0_3) := (blk_cell BK424.out 3).trans rfl
    have hfz10_0 := blk_frozen BK424.out 0
    have hfz10_1 := blk_frozen BK424.out 1
    have hfz10_2 := blk_frozen BK424.out 2
    have hfz10_3 := blk_frozen BK424.out 3
    go_wp2_with (first | ((with_reducible refine gate_callee (f := 20) rfl ?_); refine goesL_ (some 17) rfl rfl Tryd.func20 (by kernel_rfl) rfl #[.agg #[.int .i64 a0_0, .string a0_1, .slice A0_2 l0_2.length c0_2, .string a0_3]] rfl lm_ ?_; (with_reducible refine (impl_SegmentOk.calls k a0_0 a0_1 _ _ l0_2 a0_3 true _ ?side1 ?side2 ?side3 A7.out).mono ?_); (case side1 => repeat (first | exact (Kd.C_below HR0_2.out HB.out) | exact HR0_2.out | (with_reducible refine Kd.C_alloc ?_ _) | (with_reducible refine Kd.C_drewN ?_ _) | (with_reducible refine Kd.C_drew ?_))); (case side2 => exact HC0_2.out); (case side3 => exact tab_of HT.out bl_); rintro e w11 ⟨rfl, hb⟩; refine ⟨_, rfl, ?_⟩; have n0_ := Aside0.mk (blk_below (g := gb424) (o := .cells #[.int .i64 a0_0, .string a0_1, .slice A0_2 l0_2.length c0_2, .string a0_3] 30 (0, 0)) (bk_ BK424.out) hb); have n1_ := Aside0.mk (below_step bl_ hb); clear BK424; clear HB; have BK424 := n0_; have HB := n1_; clear n0_ n1_; (try clear hb); (try clear hb2); (try clear hk); (try clear hi)))
    go_meet
    case rel => exact ⟨_, (decide ((t425.size : Int) > 15000)), (by first | rfl | (simp; done) | (simp [*]; done)), H', ⟨by first | omega | exact Nat.le_refl _⟩, ⟨bk_ BK424.out⟩, ⟨bl_⟩⟩
   ·replace c9 := Bool.eq_false_iff.mpr c9
    subst c9
    have H1 : (impl_SegmentText.j0 k t425 true a0_0 a0_1 l0_2 a0_3) = some (r1, r2) := by rw [if_neg (show ¬ (false = true) by decide)] at H; exact H
    clear H
    have H := H1
    clear H1
    have H' := Aside0.mk H
    clear H
    have hcz12_0 : w6.cell? ⟨gb424, 0, none⟩ = some (.int .i64 a0_0) := (blk_cell BK424.out 0).trans rfl
    have hcz12_1 : w6.cell? ⟨gb424, 1, none⟩ = some (.string a0_1) := (blk_cell BK424.out 1).trans rfl
    have hcz12_2 : w6.cell? ⟨gb424, 2, none⟩ = some (.slice A0_2 l0_2.length c0_2) := (blk_cell BK424.out 2).trans rfl
    have hcz12_3 : w6.cell? ⟨gb424, 3, none⟩ = some (.string a0_3) := (blk_cell BK424.out 3).trans rfl
    have hfz12_0 := blk_frozen BK424.out 0
    have hfz12_1 := blk_frozen BK424.out 1
    have hfz12_2 := blk_frozen BK424.out 2
    have hfz12_3 := blk_frozen BK424.out 3
    go_wp2_with (first | ((with_reducible refine gate_callee (f := 20) rfl ?_); refine goesL_ (some 17) rfl rfl Tryd.func20 (by kernel_rfl) rfl #[.agg #[.int .i64 a0_0, .string a0_1, .slice A0_2 l0_2.length c0_2, .string a0_3]] rfl lm_ ?_; (with_reducible refine (impl_SegmentOk.calls k a0_0 a0_1 _ _ l0_2 a0_3 true _ ?side1 ?side2 ?side3 A7.out).mono ?_); (case side1 => repeat (first | exact (Kd.C_below HR0_2.out HB.out) | exact HR0_2.out | (with_reducible refine Kd.C_alloc ?_ _) | (with_reducible refine Kd.C_drewN ?_ _) | (with_reducible refine Kd.C_drew ?_))); (case side2 => exact HC0_2.out); (case side3 => exact tab_of HT.out bl_); rintro e w13 ⟨rfl, hb⟩; refine ⟨_, rfl, ?_⟩; have n0_ := Aside0.mk (blk_below (g := gb424) (o := .cells #[.int .i64 a0_0, .string a0_1, .slice A0_2 l0_2.length c0_2, .string a0_3] 30 (0, 0)) (bk_ BK424.out) hb); have n1_ := Aside0.mk (below_step bl_ hb); clear BK424; clear HB; have BK424 := n0_; have HB := n1_; clear n0_ n1_; (try clear hb); (try clear hb2); (try clear hk); (try clear hi)))
    go_meet
    case rel => exact ⟨_, (true), (by first | rfl | (simp; done) | (simp [*]; done)), H', ⟨by first | omega | exact Nat.le_refl _⟩, ⟨bk_ BK424.out⟩, ⟨bl_⟩⟩
  ·replace c8 := Bool.eq_false_iff.mpr c8
   subst c8
   have H1 : (impl_SegmentText.j0 k t425 true a0_0 a0_1 l0_2 a0_3) = some (r1, r2) := by rw [if_neg (show ¬ (false = true) by decide)] at H; exact H
   clear H
   have H := H1
   clear H1
   have H' := Aside0.mk H
   clear H
   have hcz14_0 : w6.cell? ⟨gb424, 0, none⟩ = some (.int .i64 a0_0) := (blk_cell BK424.out 0).trans rfl
   have hcz14_1 : w6.cell? ⟨gb424, 1, none⟩ = some (.string a0_1) := (blk_cell BK424.out 1).trans rfl
   have hcz14_2 : w6.cell? ⟨gb424, 2, none⟩ = some (.slice A0_2 l0_2.length c0_2) := (blk_cell BK424.out 2).trans rfl
   have hcz14_3 : w6.cell? ⟨gb424, 3, none⟩ = some (.string a0_3) := (blk_cell BK424.out 3).trans rfl
   have hfz14_0 := blk_frozen BK424.out 0
   have hfz14_1 := blk_frozen BK424.out 1
   have hfz14_2 := blk_frozen BK424.out 2
   have hfz14_3 := blk_frozen BK424.out 3
   go_wp2_with (first | ((with_reducible refine gate_callee (f := 20) rfl ?_); refine goesL_ (some 17) rfl rfl Tryd.func20 (by kernel_rfl) rfl #[.agg #[.int .i64 a0_0, .string a0_1, .slice A0_2 l0_2.length c0_2, .string a0_3]] rfl lm_ ?_; (with_reducible refine (impl_SegmentOk.calls k a0_0 a0_1 _ _ l0_2 a0_3 false _ ?side1 ?side2 ?side3 A7.out).mono ?_); (case side1 => repeat (first | exact (Kd.C_below HR0_2.out HB.out) | exact HR0_2.out | (with_reducible refine Kd.C_alloc ?_ _) | (with_reducible refine Kd.C_drewN ?_ _) | (with_reducible refine Kd.C_drew ?_))); (case side2 => exact HC0_2.out); (case side3 => exact tab_of HT.out bl_); rintro e w15 ⟨rfl, hb⟩; refine ⟨_, rfl, ?_⟩; have n0_ := Aside0.mk (blk_below (g := gb424) (o := .cells #[.int .i64 a0_0, .string a0_1, .slice A0_2 l0_2.length c0_2, .string a0_3] 30 (0, 0)) (bk_ BK424.out) hb); have n1_ := Aside0.mk (below_step bl_ hb); clear BK424; clear HB; have BK424 := n0_; have HB := n1_; clear n0_ n1_; (try clear hb); (try clear hb2); (try clear hk); (try clear hi)))
   go_meet
   case rel => exact ⟨_, (true), (by first | rfl | (simp; done) | (simp [*]; done)), H', ⟨by first | omega | exact Nat.le_refl _⟩, ⟨bk_ BK424.out⟩, ⟨bl_⟩⟩
 case rest =>
  clear HC3
  try clear c2
  try clear p2
  try clear c6
  try clear c8
  try clear c9
  try clear hcz10_0
  try clear hcz10_1
  try clear hcz10_2
  try clear hcz10_3
  try clear hcz12_0
  try clear hcz12_1
  try clear hcz12_2
  try clear hcz12_3
  try clear hcz14_0
  try clear hcz14_1
  try clear hcz14_2
  try clear hcz14_3
  try clear hcz5_0
  try clear hcz5_1
  try clear hcz5_2
  try clear hcz5_3
  try clear hfz10_0
  try clear hfz10_1
  try clear hfz10_2
  try clear hfz10_3
  try clear hfz12_0
  try clear hfz12_1
  try clear hfz12_2
  try clear hfz12_3
  try clear hfz14_0
  try clear hfz14_1
  try clear hfz14_2
  try clear hfz14_3
  try clear hfz5_0
  try clear hfz5_1
  try clear hfz5_2
  try clear hfz5_3
  obtain ⟨kq, x27_2, rfl, HA, HJ2, BK424, HB⟩ := hcut
  cases kq with
  | zero => exact absurd HA.out (by simp [impl_SegmentText.j0])
  | succ kj2 =>
   have H := HA.out
   clear HA
   simp only [impl_SegmentText.j0] at H
   by_cases c16 : x27_2 = true
   ·subst c16
    have H1 : (some ((⟨#[]⟩ : ByteArray), false)) = some (r1, r2) := by rw [if_pos rfl] at H; exact H
    clear H
    have H := H1
    clear H1
    simp only [Option.some.injEq, Prod.mk.injEq] at H
    obtain ⟨rfl, rfl⟩ := H
    go_wp2
    go_ret2
    exact ⟨by first | rfl | (simp [errW_none, errW_some] <;> rfl) | (simp [*, errW_none, errW_some] <;> rfl), bl_⟩
   ·replace c16 := Bool.eq_false_iff.mpr c16
    subst c16
    have H1 : ((impl_VarText.f kj2 a0_0).bind fun bt428 => ((impl_ShortText.f kj2 t425).bind fun bt430 => (if bt428.1.size + a0_1.size ≤ 9223372036854775807 then (if (bt428.1 ++ a0_1).size + bt430.1.size ≤ 9223372036854775807 then ((impl_Sealed.f kj2 ((bt428.1 ++ a0_1) ++ bt430.1)).bind fun bt432 => (some (bt432.1, bt432.2))) else (none)) else (none)))) = some (r1, r2) := by rw [if_neg (show ¬ (false = true) by decide)] at H; exact H
    clear H
    have H := H1
    clear H1
    replace H := Option.bind_eq_some_iff.mp H
    obtain ⟨⟨t428, t429⟩, A170, H⟩ := H
    replace H : ((impl_ShortText.f kj2 t425).bind fun bt430 => (if t428.size + a0_1.size ≤ 9223372036854775807 then (if (t428 ++ a0_1).size + bt430.1.size ≤ 9223372036854775807 then ((impl_Sealed.f kj2 ((t428 ++ a0_1) ++ bt430.1)).bind fun bt432 => (some (bt432.1, bt432.2))) else (none)) else (none))) = some (r1, r2) := H
    have A17 := Aside0.mk A170
    clear A170
    replace H := Option.bind_eq_some_iff.mp H
    obtain ⟨⟨t430, t431⟩, A180, H⟩ := H
    replace H : (if t428.size + a0_1.size ≤ 9223372036854775807 then (if (t428 ++ a0_1).size + t430.size ≤ 9223372036854775807 then ((impl_Sealed.f kj2 ((t428 ++ a0_1) ++ t430)).bind fun bt432 => (some (bt432.1, bt432.2))) else (none)) else (none)) = some (r1, r2) := H
    have A18 := Aside0.mk A180
    clear A180
    by_cases c19 : t428.size + a0_1.size ≤ 9223372036854775807
    ·rw [if_pos c19] at H
     have c19b0 := eq_true c19
     have c19b1 : decide (t428.size + a0_1.size ≤ 9223372036854775807) = true := decide_eq_true c19
     try have c19b2 : (9223372036854775807 < t428.size + a0_1.size) = False := eq_false (Nat.not_lt.2 c19)
     by_cases c20 : (t428 ++ a0_1).size + t430.size ≤ 9223372036854775807
     ·rw [if_pos c20] at H
      have c20b0 := eq_true c20
      have c20b1 : decide ((t428 ++ a0_1).size + t430.size ≤ 9223372036854775807) = true := decide_eq_true c20
      try have c20b2 : (9223372036854775807 < (t428 ++ a0_1).size + t430.size) = False := eq_false (Nat.not_lt.2 c20)
      try have c20b3 : (9223372036854775807 < t428.size + a0_1.size + t430.size) = False := eq_false (by have h_ := c20; (repeat rw [ByteArray.size_append] at h_); exact Nat.not_lt.2 h_)
      replace H := Option.bind_eq_some_iff.mp H
      obtain ⟨⟨t432, t433⟩, A210, H⟩ := H
      replace H : (some (t432, t433)) = some (r1, r2) := H
      have A21 := Aside0.mk A210
      clear A210
      simp only [Option.some.injEq, Prod.mk.injEq] at H
      obtain ⟨rfl, rfl⟩ := H
      have hcz22_0 : wc.cell? ⟨gb424, 0, none⟩ = some (.int .i64 a0_0) := (blk_cell BK424.out 0).trans rfl
      have hcz22_1 : wc.cell? ⟨gb424, 1, none⟩ = some (.string a0_1) := (blk_cell BK424.out 1).trans rfl
      have hcz22_2 : wc.cell? ⟨gb424, 2, none⟩ = some (.slice A0_2 l0_2.length c0_2) := (blk_cell BK424.out 2).trans rfl
      have hcz22_3 : wc.cell? ⟨gb424, 3, none⟩ = some (.string a0_3) := (blk_cell BK424.out 3).trans rfl
      have hfz22_0 := blk_frozen BK424.out 0
      have hfz22_1 := blk_frozen BK424.out 1
      have hfz22_2 := blk_frozen BK424.out 2
      have hfz22_3 := blk_frozen BK424.out 3
      go_wp2_with (first | ((with_reducible refine gate_callee (f := 77) rfl ?_); refine goesL_ (some 31) rfl rfl Tryd.func77 (by kernel_rfl) rfl #[.int .i64 a0_0] rfl lm_ ?_; (with_reducible refine (impl_VarText.calls kj2 a0_0 t428 t429 _ A17.out).mono ?_); rintro e w23 ⟨rfl, hb⟩; refine ⟨_, rfl, ?_⟩; have n0_ := Aside0.mk (blk_below (g := gb424) (o := .cells #[.int .i64 a0_0, .string a0_1, .slice A0_2 l0_2.length c0_2, .string a0_3] 30 (0, 0)) (bk_ BK424.out) hb); have n1_ := Aside0.mk (below_step bl_ hb); clear BK424; clear HB; have BK424 := n0_; have HB := n1_; clear n0_ n1_; (try clear hb); (try clear hb2); (try clear hk); (try clear hi)) | ((with_reducible refine gate_callee (f := 78) rfl ?_); refine goesL_ (some 36) rfl rfl Tryd.func78 (by kernel_rfl) rfl #[.string t425] rfl lm_ ?_; (with_reducible refine (impl_ShortText.calls kj2 t425 t430 t431 _ A18.out).mono ?_); rintro e w24 ⟨rfl, hb⟩; refine ⟨_, rfl, ?_⟩; have n0_ := Aside0.mk (blk_below (g := gb424) (o := .cells #[.int .i64 a0_0, .string a0_1, .slice A0_2 l0_2.length c0_2, .string a0_3] 30 (0, 0)) (bk_ BK424.out) hb); have n1_ := Aside0.mk (below_step bl_ hb); clear BK424; clear HB; have BK424 := n0_; have HB := n1_; clear n0_ n1_; (try clear hb); (try clear hb2); (try clear hk); (try clear hi); have hcz25_0 : w24.cell? ⟨gb424, 0, none⟩ = some (.int .i64 a0_0) := (blk_cell BK424.out 0).trans rfl; have hcz25_1 : w24.cell? ⟨gb424, 1, none⟩ = some (.string a0_1) := (blk_cell BK424.out 1).trans rfl; have hcz25_2 : w24.cell? ⟨gb424, 2, none⟩ = some (.slice A0_2 l0_2.length c0_2) := (blk_cell BK424.out 2).trans rfl; have hcz25_3 : w24.cell? ⟨gb424, 3, none⟩ = some (.string a0_3) := (blk_cell BK424.out 3).trans rfl; have hfz25_0 := blk_frozen BK424.out 0; have hfz25_1 := blk_frozen BK424.out 1; have hfz25_2 := blk_frozen BK424.out 2; have hfz25_3 := blk_frozen BK424.out 3) | ((with_reducible refine gate_callee (f := 79) rfl ?_); refine goesL_ (some 45) rfl rfl Tryd.func79 (by kernel_rfl) rfl #[.string ((t428 ++ a0_1) ++ t430)] rfl lm_ ?_; (with_reducible refine (impl_Sealed.calls kj2 ((t428 ++ a0_1) ++ t430) t432 t433 _ A21.out).mono ?_); rintro e w26 ⟨rfl, hb⟩; refine ⟨_, rfl, ?_⟩; have n0_ := Aside0.mk (blk_below (g := gb424) (o := .cells #[.int .i64 a0_0, .string a0_1, .slice A0_2 l0_2.length c0_2, .string a0_3] 30 (0, 0)) (bk_ BK424.out) hb); have n1_ := Aside0.mk (below_step bl_ hb); clear BK424; clear HB; have BK424 := n0_; have HB := n1_; clear n0_ n1_; (try clear hb); (try clear hb2); (try clear hk); (try clear hi)))
      go_ret2
      exact ⟨by first | rfl | (simp [errW_none, errW_some] <;> rfl) | (simp [*, errW_none, errW_some] <;> rfl), bl_⟩
     ·rw [if_neg c20] at H
      exact absurd H (by simp)
    ·rw [if_neg c19] at H
     exact absurd H (by simp)

end Go.Proofs.YtdhjolglbcoijaaDoor.PA

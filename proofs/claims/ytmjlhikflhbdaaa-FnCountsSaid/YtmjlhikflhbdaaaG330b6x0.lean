/- Contracts of functions of the program and of the reference, and plain lemmas on what they compute. No condition. -/
import Derived.Test.YtmjlhikflhbdaaaGabbbex0
import Derived.Test.YtmjlhikflhbdaaaShortV
namespace Go.Proofs.Ytmjlhikflhbdaaa.PA
open Go.RowKit Go.Proofs.Ytmjlhikflhbdaaa.Short Go.Proofs.YtmjlhikflhbdaaaW.PrintWords Go.Proofs.YtmjlhikflhbdaaaW.PrintLast Go.Proofs.YtmjlhikflhbdaaaW.PrintMore
attribute [local go_sem] max2_int min2_int max_two min_two max_three min_three max_four min_four   -- for this text's walks alone
set_option linter.unusedVariables false
set_option linter.unusedSimpArgs false

/-! ### impl_PidsIn: function 44 -/
def impl_PidsIn.l0 : Nat → List Int → List (S131) → Int → Int → Option (List Int)
 | 0, _, _, _, _ => none
 | k + 1, x3, x7, x8, x9 => if x9 < x8 then (if 0 ≤ x9 then (if x9 < (x7.length : Int) then (if x3.length < 17592186044416 then (impl_PidsIn.l0 k (x3 ++ [(rd_T131 x7 x9).f0]) x7 x8 (wrap64 (x9 + 1))) else (none)) else (none)) else (none)) else ((slices_Sort_int_int.f x3).bind fun t1032 => ((slices_Compact_int_int.f t1032).bind fun t1033 => (some t1033)))
def impl_PidsIn.f (k : Nat) (l0 : List (S131)) : Option (List Int) := impl_PidsIn.l0 k (([] : List Int)) l0 (l0.length : Int) 0
theorem impl_PidsIn.mono_l : ∀ k, (∀ y0 y1 y2 y3, LeO (impl_PidsIn.l0 k y0 y1 y2 y3) (impl_PidsIn.l0 (k + 1) y0 y1 y2 y3))
 | 0 => fun _ _ _ _ r h => by simp [impl_PidsIn.l0] at h
 | k + 1 => by
  have ih0 := impl_PidsIn.mono_l k
  ·intro y0 y1 y2 y3
   unfold impl_PidsIn.l0
   repeat' first
   | (with_reducible exact ih0 _ _ _ _)
   | (with_reducible exact LeO.refl _)
   | (with_reducible exact LeO.none _)
   | (with_reducible refine LeO.ite ?_ ?_)
   | (with_reducible refine LeO.bind ?_ (fun _ => ?_))
   | exact ih0 _ _ _ _
   | exact LeO.none _
   | refine LeO.ite ?_ ?_
   | refine LeO.bind ?_ (fun _ => ?_)
theorem impl_PidsIn.mono : ∀ a0 k, LeO (impl_PidsIn.f k a0) (impl_PidsIn.f (k + 1) a0) := by
 intro a0 k
 have ih0 := impl_PidsIn.mono_l k
 unfold impl_PidsIn.f
 repeat' first
  | (with_reducible exact ih0 _ _ _ _)
  | (with_reducible exact LeO.refl _)
  | (with_reducible exact LeO.none _)
  | (with_reducible refine LeO.ite ?_ ?_)
  | (with_reducible refine LeO.bind ?_ (fun _ => ?_))
  | exact ih0 _ _ _ _
  | exact LeO.none _
  | refine LeO.ite ?_ ?_
  | refine LeO.bind ?_ (fun _ => ?_)
set_option maxHeartbeats 8000000 in
set_option maxRecDepth 100000 in
theorem impl_PidsIn.calls (k : Nat) (A0 : Option Addr) (c0 : Nat) (l0 : List (S131)) (r : List Int) (w : World) (hr0 : Kd.C k131 w A0 l0.length l0) (hc0 : l0.length ≤ c0) (h : impl_PidsIn.f k l0 = some r) :
 Calls Try.prog 44 #[.slice A0 l0.length c0] w fun e w' => ∃ v0_ : Value, e = .returned (v0_) ∧ Kd.R (Kd.int .i64) 3 w' w.heap.size (fun _ => True) v0_ r ∧ Below w.heap.size w w' := by
 have hu131 := Try.underlying131
 have HR0 := Aside0.mk hr0
 have HC0 := Aside0.mk hc0
 clear hr0 hc0
 have HB := Aside0.mk (Below.refl w.heap.size w)
 have H : (impl_PidsIn.l0 k (([] : List Int)) l0 (l0.length : Int) 0) = some r := h
 clear h
 obtain ⟨y1024, hy1024⟩ : ∃ y_ : List Int, y_ = (([] : List Int)) := ⟨_, rfl⟩
 replace H : (impl_PidsIn.l0 k y1024 l0 (l0.length : Int) 0) = some r := by first | (rw [hy1024]; with_reducible exact H) | (have H2_ := (Option.bind_some _ _).symm.trans H; rw [hy1024]; with_reducible exact H2_) | (have H2_ := (Option.bind_some _ _).symm.trans H; with_reducible exact H2_) | with_reducible exact H | (rw [hy1024]; exact H) | exact H
 have Ny1024 := Aside0.mk hy1024
 clear hy1024
 have H' := Aside0.mk H
 clear H
 go_enter Try.func44, Try.ntmps44
 go_wp2_with (first | ((with_reducible refine gate_dst (N := 6) rfl ?_); refine Kd.R_lit (Kd.int .i64) _ 3 ?hg (N := 6) ?hd (xs := ([] : List Int)) (inner := []) (ok := fun _ => True) (okp := fun _ => True) ?hr ?hp (fun _ hk => hk) trivial (Below.refl _ _) (Nat.le_refl _) (by simp) ?_; (case hd => rfl); (case hg => rfl); (case hr => first | (go_simp; done) | (go_simp; rfl)); (case hp => exact (Reps.none _ _)); intro v1025 w2 ho3 hb hg_ hnew_; clear hg_ hnew_; (first | rw [← Ny1024.out] at ho3 | (simp only [Int.reduceToNat] at ho3; rw [← Ny1024.out] at ho3)); have n0_ := Aside0.mk (Kd.R_lower ho3 (below_size bl_)); have n1_ := Aside0.mk (below_step bl_ hb); clear HB; have HO1026 := n0_; have HB := n1_; clear n0_ n1_; clear hb ho3))
 go_loopg [3, 9] k (fun kq v3 v9 w' => ∃ (x3_1 : List Int) (x9_1 : Int), v9 = .int .i64 x9_1 ∧ Aside0 (impl_PidsIn.l0 kq x3_1 l0 (l0.length : Int) x9_1 = some r) ∧ Aside0 (kq ≤ k) ∧ Aside0 (Kd.R (Kd.int .i64) 3 w' w.heap.size (fun _ => True) v3 x3_1) ∧ Aside0 (Below w.heap.size w w'))
 case atStart => exact ⟨(y1024), (0), (by first | rfl | (simp; done) | (simp [*]; done)), H', ⟨Nat.le_refl _⟩, ⟨ra_ HO1026.out⟩, ⟨bl_⟩⟩
 case round =>
  clear H'
  try clear p2
  obtain ⟨x3_1, x9_1, rfl, HA, HK1, HO_3, HB⟩ := hrel
  cases gk with
  | zero => exact absurd HA.out (by simp [impl_PidsIn.l0])
  | succ k1 =>
   have H := HA.out
   clear HA
   simp only [impl_PidsIn.l0] at H
   by_cases c4 : x9_1 < (l0.length : Int)
   ·rw [if_pos c4] at H
    have c4b0 : decide (x9_1 < (l0.length : Int)) = true := decide_eq_true c4
    clear c4
    by_cases c5 : 0 ≤ x9_1
    ·rw [if_pos c5] at H
     have c5b0 : decide (0 ≤ x9_1) = true := decide_eq_true c5
     clear c5
     by_cases c6 : x9_1 < (l0.length : Int)
     ·rw [if_pos c6] at H
      have c6b0 : decide (x9_1 < (l0.length : Int)) = true := decide_eq_true c6
      clear c6
      by_cases c7 : x3_1.length < 17592186044416
      ·rw [if_pos c7] at H
       have LMc7 := Aside0.mk c7
       clear c7
       obtain ⟨y1029, hy1029⟩ : ∃ y_ : List Int, y_ = (x3_1 ++ [(rd_T131 l0 x9_1).f0]) := ⟨_, rfl⟩
       replace H : (impl_PidsIn.l0 k1 y1029 l0 (l0.length : Int) (wrap64 (x9_1 + 1))) = some r := by first | (rw [hy1029]; with_reducible exact H) | (have H2_ := (Option.bind_some _ _).symm.trans H; rw [hy1029]; with_reducible exact H2_) | (have H2_ := (Option.bind_some _ _).symm.trans H; with_reducible exact H2_) | with_reducible exact H | (rw [hy1029]; exact H) | exact H
       have Ny1029 := Aside0.mk hy1029
       clear hy1029
       have H' := Aside0.mk H
       clear H
       have p1027 : 0 ≤ (x9_1 : Int) := of_decide_eq_true as_
       have q1027 : x9_1 < (l0.length : Int) := of_decide_eq_true as_
       obtain ⟨ad1027, e1027, hx1027_0, hx1027_1, hx1027_2, hx1027_3, hx1027_4, hx1027_5⟩ := at_T131 HR0.out x9_1 p1027 q1027
       cases e1027
       replace hx1027_0 := (HB.out.cell (World.block_lt_of_cell? w _ hx1027_0)).trans hx1027_0
       replace hx1027_1 := (HB.out.cell (World.block_lt_of_cell? w _ hx1027_1)).trans hx1027_1
       replace hx1027_2 := (HB.out.cell (World.block_lt_of_cell? w _ hx1027_2)).trans hx1027_2
       replace hx1027_3 := (HB.out.cell (World.block_lt_of_cell? w _ hx1027_3)).trans hx1027_3
       replace hx1027_4 := (HB.out.cell (World.block_lt_of_cell? w _ hx1027_4)).trans hx1027_4
       replace hx1027_5 := (HB.out.cell (World.block_lt_of_cell? w _ hx1027_5)).trans hx1027_5
       replace p1027 := eq_true p1027
       replace q1027 := eq_true q1027
       go_wp2_with (first | ((with_reducible refine gate_dst (N := 5) rfl ?_); refine box_event ?hg (N := 5) ?hd (cs := #[.int .i64 0, .int .i64 0, .int .i64 0, .int .i64 0, .int .i64 0, .int .i64 0]) (t := 131) ?hr ?_; (case hd => rfl); (case hg => rfl); (case hr => first | (go_simp; done) | (go_simp; rfl)); intro gb1028 hg w8 hbox hb; have n0_ := Aside0.mk (Kd.R_below (ra_ HO_3.out) hb); have n1_ := Aside0.mk (below_step bl_ hb); have n2_ := Aside0.mk (hbox); have n3_ := Aside0.mk ((hz_ : w.heap.size ≤ gb1028)); have n4_ := Aside0.mk ((hz_ : w.heap.size ≤ gb1028)); clear HO_3; clear HB; have HO_3 := n0_; have HB := n1_; have BK1028 := n2_; have GW1028 := n3_; have GE1028 := n4_; clear n0_ n1_ n2_ n3_ n4_; clear hb hbox hg; have hcz9_0 : w8.cell? ⟨gb1028, 0, none⟩ = some (.int .i64 0) := (blk_cell BK1028.out 0).trans rfl; have hcz9_1 : w8.cell? ⟨gb1028, 1, none⟩ = some (.int .i64 0) := (blk_cell BK1028.out 1).trans rfl; have hcz9_2 : w8.cell? ⟨gb1028, 2, none⟩ = some (.int .i64 0) := (blk_cell BK1028.out 2).trans rfl; have hcz9_3 : w8.cell? ⟨gb1028, 3, none⟩ = some (.int .i64 0) := (blk_cell BK1028.out 3).trans rfl; have hcz9_4 : w8.cell? ⟨gb1028, 4, none⟩ = some (.int .i64 0) := (blk_cell BK1028.out 4).trans rfl; have hcz9_5 : w8.cell? ⟨gb1028, 5, none⟩ = some (.int .i64 0) := (blk_cell BK1028.out 5).trans rfl; have hfz9_0 := blk_frozen BK1028.out 0; have hfz9_1 := blk_frozen BK1028.out 1; have hfz9_2 := blk_frozen BK1028.out 2; have hfz9_3 := blk_frozen BK1028.out 3; have hfz9_4 := blk_frozen BK1028.out 4; have hfz9_5 := blk_frozen BK1028.out 5) | ((with_reducible refine gate_builtin (b := .append) (xs := #[.tmp 13, .tmp 16]) rfl ?_); at_builtin; refine Kd.R_append (Kd.int .i64) (w0 := w) w.heap.size rfl (.tmp 13) (.tmp 16) 54 3 (.int .i64 0) 8 rfl Try.underlying54 info3 rfl (by decide) (by omega) u3 x3_1 ((rd_T131 l0 x9_1).f0) [.int .i64 ((rd_T131 l0 x9_1).f0)] (fun _ => True) (fun _ => False) rfl (by first | (go_simp; done) | (go_simp; rfl)) ?aP (fun _ hk => hk.elim) ?aF ?aO ?aB ?aS ?aL ?_; (case aP => exact rfl); (case aB => exact bl_); (case aF => exact (fun _ _ => trivial)); (case aO => exact (by (with_reducible repeat (first | apply Kd.R_alloc | apply Kd.R_drewN | apply Kd.R_drew)); exact Kd.R_mono (Kd.R_far (p := ⟨gb1028, 5, none⟩) (Kd.R_far (p := ⟨gb1028, 4, none⟩) (Kd.R_far (p := ⟨gb1028, 3, none⟩) (Kd.R_far (p := ⟨gb1028, 2, none⟩) (Kd.R_far (p := ⟨gb1028, 1, none⟩) (Kd.R_far (p := ⟨gb1028, 0, none⟩) (Kd.R_types HO_3.out BK1028.out (by decide)) (fun _ hk => hk.2) (.int .i64 ((rd_T131 l0 x9_1).f0))) (fun _ hk => hk.2) (.int .i64 ((rd_T131 l0 x9_1).f1))) (fun _ hk => hk.2) (.int .i64 ((rd_T131 l0 x9_1).f2.f0))) (fun _ hk => hk.2) (.int .i64 ((rd_T131 l0 x9_1).f2.f1))) (fun _ hk => hk.2) (.int .i64 ((rd_T131 l0 x9_1).f2.f2))) (fun _ hk => hk.2) (.int .i64 ((rd_T131 l0 x9_1).f2.f3))) (fun _ hk => trivial))); (case aS => exact (below_size bl_)); (case aL => have := LMc7.out; omega); intro v1030 w10 ho hb hg hat; rw [← Ny1029.out] at ho; have n0_ := Aside0.mk (blk_grown (g := gb1028) (o := .cells #[.int .i64 ((rd_T131 l0 x9_1).f0), .int .i64 ((rd_T131 l0 x9_1).f1), .int .i64 ((rd_T131 l0 x9_1).f2.f0), .int .i64 ((rd_T131 l0 x9_1).f2.f1), .int .i64 ((rd_T131 l0 x9_1).f2.f2), .int .i64 ((rd_T131 l0 x9_1).f2.f3)] 131 (0, 0)) (by (with_reducible repeat (first | refine blk_drewN ?_ _ | refine blk_drew ?_ | refine blk_alloc ?_ _)); refine blk_put (cs := #[.int .i64 ((rd_T131 l0 x9_1).f0), .int .i64 ((rd_T131 l0 x9_1).f1), .int .i64 ((rd_T131 l0 x9_1).f2.f0), .int .i64 ((rd_T131 l0 x9_1).f2.f1), .int .i64 ((rd_T131 l0 x9_1).f2.f2), .int .i64 0]) ?_ 5 _ rfl; (with_reducible repeat (first | refine blk_drewN ?_ _ | refine blk_drew ?_ | refine blk_alloc ?_ _)); refine blk_put (cs := #[.int .i64 ((rd_T131 l0 x9_1).f0), .int .i64 ((rd_T131 l0 x9_1).f1), .int .i64 ((rd_T131 l0 x9_1).f2.f0), .int .i64 ((rd_T131 l0 x9_1).f2.f1), .int .i64 0, .int .i64 0]) ?_ 4 _ rfl; (with_reducible repeat (first | refine blk_drewN ?_ _ | refine blk_drew ?_ | refine blk_alloc ?_ _)); refine blk_put (cs := #[.int .i64 ((rd_T131 l0 x9_1).f0), .int .i64 ((rd_T131 l0 x9_1).f1), .int .i64 ((rd_T131 l0 x9_1).f2.f0), .int .i64 0, .int .i64 0, .int .i64 0]) ?_ 3 _ rfl; (with_reducible repeat (first | refine blk_drewN ?_ _ | refine blk_drew ?_ | refine blk_alloc ?_ _)); refine blk_put (cs := #[.int .i64 ((rd_T131 l0 x9_1).f0), .int .i64 ((rd_T131 l0 x9_1).f1), .int .i64 0, .int .i64 0, .int .i64 0, .int .i64 0]) ?_ 2 _ rfl; (with_reducible repeat (first | refine blk_drewN ?_ _ | refine blk_drew ?_ | refine blk_alloc ?_ _)); refine blk_put (cs := #[.int .i64 ((rd_T131 l0 x9_1).f0), .int .i64 0, .int .i64 0, .int .i64 0, .int .i64 0, .int .i64 0]) ?_ 1 _ rfl; (with_reducible repeat (first | refine blk_drewN ?_ _ | refine blk_drew ?_ | refine blk_alloc ?_ _)); refine blk_put (cs := #[.int .i64 0, .int .i64 0, .int .i64 0, .int .i64 0, .int .i64 0, .int .i64 0]) ?_ 0 _ rfl; (with_reducible repeat (first | refine blk_drewN ?_ _ | refine blk_drew ?_ | refine blk_alloc ?_ _)); exact BK1028.out) hg (Kd.R_ne HO_3.out BK1028.out (by decide))); have n1_ := Aside0.mk (hb); have n2_ := Aside0.mk (ho); clear BK1028; clear HB; clear HO_3; have BK1028 := n0_; have HB := n1_; have HO1031 := n2_; clear n0_ n1_ n2_; clear ho hb hg hat))
       go_roundg k1
       case measure => have := HK1.out; omega
       case rel => exact ⟨(y1029), (wrap64 (x9_1 + 1)), (by first | rfl | (simp; done) | (simp [*]; done)), H', ⟨by have := HK1.out; omega⟩, ⟨ra_ HO1031.out⟩, ⟨bl_⟩⟩
      ·rw [if_neg c7] at H
       exact absurd H (by simp)
     ·rw [if_neg c6] at H
      exact absurd H (by simp)
    ·rw [if_neg c5] at H
     exact absurd H (by simp)
   ·rw [if_neg c4] at H
    have c4b0 : decide (x9_1 < (l0.length : Int)) = false := decide_eq_false c4
    clear c4
    replace H := Option.bind_eq_some_iff.mp H
    obtain ⟨t1032, A110, H⟩ := H
    try dsimp only at H
    have A11 := Aside0.mk A110
    clear A110
    replace H := Option.bind_eq_some_iff.mp H
    obtain ⟨t1033, A120, H⟩ := H
    try dsimp only at H
    have A12 := Aside0.mk A120
    clear A120
    obtain rfl := Option.some.inj H
    obtain ⟨Ao13, co13, eo13⟩ := Kd.R_slice HO_3.out
    subst eo13
    go_wp2_with (first | ((with_reducible refine gate_callee (f := 128) rfl ?_); refine goesL_ (some 20) rfl rfl Try.func128 (by kernel_rfl) rfl #[.slice Ao13 x3_1.length co13] rfl lm_ ?_; (with_reducible refine (slices_Sort_int_int.calls (fun k_ => some k_ = (.slice Ao13 x3_1.length co13 : Value).ownBlock) (.slice Ao13 x3_1.length co13) x3_1 t1032 w _ ?side1 ?side2 A11.out).mono ?_); (case side1 => repeat (first | (with_reducible first | exact HB.out | apply below_alloc | apply pw_below_drewN | apply below_drew1) | exact HB.out)); (case side2 => exact Kd.R_tight rfl HO_3.out); rintro e w14 ⟨rfl, hy0, hb, hkp⟩; refine ⟨_, rfl, ?_⟩; have n0_ := Aside0.mk (Kd.R_reok rfl hy0 (fun k_ e_ => HO_3.out.1 k_ e_)); have n1_ := Aside0.mk (hb); clear HO_3; clear HB; have HO_3 := n0_; have HB := n1_; clear n0_ n1_; (try clear hb); (try clear hkp); (try clear hy0)) | ((with_reducible refine gate_callee (f := 129) rfl ?_); refine goesL_ (some 22) rfl rfl Try.func129 (by kernel_rfl) rfl #[.slice Ao13 x3_1.length co13] rfl lm_ ?_; (with_reducible refine (slices_Compact_int_int.calls (fun k_ => some k_ = (.slice Ao13 x3_1.length co13 : Value).ownBlock) (.slice Ao13 x3_1.length co13) t1032 t1033 w _ ?side1 ?side2 A12.out).mono ?_); (case side1 => repeat (first | (with_reducible first | exact HB.out | apply below_alloc | apply pw_below_drewN | apply below_drew1) | exact HB.out)); (case side2 => exact Kd.R_tight rfl HO_3.out); rintro e w15 ⟨v1034, rfl, ho0, hb, hkp⟩; refine ⟨_, rfl, ?_⟩; have n0_ := Aside0.mk (Kd.R_mono (ok' := fun k_ => True) ho0 (fun k_ hk_ => trivial)); have n1_ := Aside0.mk (hb); clear HB; clear HO_3; have HO1035 := n0_; have HB := n1_; clear n0_ n1_; (try clear hb); (try clear hkp); (try clear ho0)))
    go_ret
    exact ⟨_, by first | rfl | (simp [errW_none, errW_some] <;> rfl) | (simp [*, errW_none, errW_some] <;> rfl) | exact False.elim (Bool.noConfusion ((decide_eq_true (of_eq_true (by assumption))).symm.trans (by assumption))), ra_ HO1035.out, bl_⟩

end Go.Proofs.Ytmjlhikflhbdaaa.PA

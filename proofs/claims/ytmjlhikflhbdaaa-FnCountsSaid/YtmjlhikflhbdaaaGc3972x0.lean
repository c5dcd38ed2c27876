/- Contracts of functions of the program and of the reference, and plain lemmas on what they compute. No condition. -/
import Derived.Test.YtmjlhikflhbdaaaGabbbex0
import Derived.Test.YtmjlhikflhbdaaaGe172dx0
import Derived.Test.YtmjlhikflhbdaaaShortV
namespace Go.Proofs.Ytmjlhikflhbdaaa.PA
open Go.RowKit Go.Proofs.Ytmjlhikflhbdaaa.Short Go.Proofs.YtmjlhikflhbdaaaW.PrintWords Go.Proofs.YtmjlhikflhbdaaaW.PrintLast Go.Proofs.YtmjlhikflhbdaaaW.PrintMore
attribute [local go_sem] max2_int min2_int max_two min_two max_three min_three max_four min_four   -- for this text's walks alone
set_option linter.unusedVariables false
set_option linter.unusedSimpArgs false

/-! ### spec_l17Item: function 177 -/
def spec_l17Item.f (s0_0 : List Int) (s0_1 : Int) (s0_2 : Int) : Option (Int × Int × Int × Int × Int × Int) := (spec_l01Once.f s0_0 s0_1 s0_2 3).bind fun bt1120 => (if bt1120.1 = true then ((spec_l01Below.f s0_0 bt1120.2.1 bt1120.2.2 5).bind fun bt1123 => (some (2, 0, 0, wrap64 (1 + bt1123.1), bt1123.2.1, bt1123.2.2))) else ((spec_l01Below.f s0_0 bt1120.2.1 bt1120.2.2 9).bind fun bt1126 => ((spec_l04Half.f s0_0 bt1126.2.1 bt1126.2.2).bind fun bt1129 => (some (1, bt1126.1, bt1129.1, 0, bt1129.2.1, bt1129.2.2)))))
set_option maxHeartbeats 8000000 in
set_option maxRecDepth 100000 in
theorem spec_l17Item.calls (g : Nat) (s0_0 : List Int) (s0_1 : Int) (s0_2 : Int) (r1 : Int) (r2 : Int) (r3 : Int) (r4 : Int) (r5 : Int) (r6 : Int) (w0 w : World) (hI : IsS163 w0 w g s0_0 s0_1 s0_2) (hB : Below w0.heap.size w0 w) (h : spec_l17Item.f s0_0 s0_1 s0_2 = some (r1, r2, r3, r4, r5, r6)) :
 Calls Try.prog 177 #[.pointer (some ⟨g, 0, none⟩)] w fun e w' => e = .returned (.agg #[.int .i64 r1, .int .i64 r2, .int .i64 r3, .int .i64 r4]) ∧ IsS163 w0 w' g s0_0 r5 r6 ∧ Below w0.heap.size w0 w' ∧ KeepBut w w' g none := by
 have hu129 := Try.underlying129
 have HI0 := Aside0.mk hI
 have HK := Aside0.mk (KeepBut.refl w g none)
 have HL := Aside0.mk hB.size
 clear hI
 have HW0 := Aside0.mk hB.size
 have HB := Aside0.mk hB
 clear hB
 have H : ((spec_l01Once.f s0_0 s0_1 s0_2 3).bind fun bt1120 => (if bt1120.1 = true then ((spec_l01Below.f s0_0 bt1120.2.1 bt1120.2.2 5).bind fun bt1123 => (some (2, 0, 0, wrap64 (1 + bt1123.1), bt1123.2.1, bt1123.2.2))) else ((spec_l01Below.f s0_0 bt1120.2.1 bt1120.2.2 9).bind fun bt1126 => ((spec_l04Half.f s0_0 bt1126.2.1 bt1126.2.2).bind fun bt1129 => (some (1, bt1126.1, bt1129.1, 0, bt1129.2.1, bt1129.2.2)))))) = some (r1, r2, r3, r4, r5, r6) := h
 clear h
 replace H := Option.bind_eq_some_iff.mp H
 obtain ⟨⟨t1120, t1121, t1122⟩, A20, H⟩ := H
 try dsimp only at H
 have A2 := Aside0.mk A20
 clear A20
 by_cases c3 : t1120 = true
 ·subst c3
  rw [if_pos rfl] at H
  replace H := Option.bind_eq_some_iff.mp H
  obtain ⟨⟨t1123, t1124, t1125⟩, A40, H⟩ := H
  try dsimp only at H
  have A4 := Aside0.mk A40
  clear A40
  simp only [Option.some.injEq, Prod.mk.injEq] at H
  obtain ⟨rfl, rfl, rfl, rfl, rfl, rfl⟩ := H
  go_enter Try.func177, Try.ntmps177
  go_wp2_with (first | ((with_reducible refine gate_dst (N := 2) rfl ?_); refine box_event ?hg (N := 2) ?hd (cs := #[.int .i64 0, .int .i64 0, .int .i64 0, .int .i64 0]) (t := 129) ?hr ?_; (case hd => rfl); (case hg => rfl); (case hr => first | (go_simp; done) | (go_simp; rfl)); intro gb1119 hg w5 hbox hb; have n0_ := Aside0.mk (IsS163.below is0_ hb); have n1_ := Aside0.mk (KeepBut.trans hk_ (KeepBut.of_below hb g none) (.inl rfl)); have n2_ := Aside0.mk (below_step bi0_ hb); have n3_ := Aside0.mk (hbox); have n4_ := Aside0.mk ((by rw [hg]; exact (keep_size (w := w) (g := g) (row := none) hk_) : w.heap.size ≤ gb1119)); have n5_ := Aside0.mk ((Nat.le_trans HW0.out (by rw [hg]; exact (keep_size (w := w) (g := g) (row := none) hk_) : w.heap.size ≤ gb1119) : w0.heap.size ≤ gb1119)); have n6_ := Aside0.mk ((by rw [hg]; exact Nat.ne_of_lt (IsS163.lt (show IsS163 w0 _ g s0_0 s0_1 s0_2 from is0_)) : g ≠ gb1119)); have n7_ := Aside0.mk ((by rw [hg]; exact Nat.ne_of_gt (IsS163.lt (show IsS163 w0 _ g s0_0 s0_1 s0_2 from is0_)) : gb1119 ≠ g)); clear HI0; clear HK; clear HB; have HI0 := n0_; have HK := n1_; have HB := n2_; have BK1119 := n3_; have GW1119 := n4_; have GE1119 := n5_; have NB0_1119 := n6_; have NB1119_0 := n7_; clear n0_ n1_ n2_ n3_ n4_ n5_ n6_ n7_; clear hb hbox hg) | ((with_reducible refine gate_callee (f := 108) rfl ?_); refine goesL_ (some 4) rfl rfl Try.func108 (by kernel_rfl) rfl #[.pointer (some ⟨g, 0, none⟩), .int .i64 3] rfl lm_ ?_; (with_reducible refine (spec_l01Once.calls g s0_0 s0_1 s0_2 3 true t1121 t1122 w0 _ ?side1 ?side2 A2.out).mono ?_); (case side1 => exact is0_); (case side2 => exact bi0_); rintro e w6 ⟨rfl, hi, hb, hk⟩; refine ⟨_, rfl, ?_⟩; have n0_ := Aside0.mk (KeepBut.blk hk (g' := gb1119) (o := .cells #[.int .i64 0, .int .i64 0, .int .i64 0, .int .i64 0] 129 (0, 0)) (bk_ BK1119.out) NB1119_0.out (by simp)); have n1_ := Aside0.mk (KeepBut.trans (by repeat (first | (with_reducible first | exact HK.out | apply KeepBut.set_ | apply keep_drewN | apply keep_drew | apply keep_alloc | refine keep_far ?_ GW1119.out _) | exact HK.out)) hk (.inl rfl)); have n2_ := Aside0.mk (hb); have n3_ := Aside0.mk (hi); clear BK1119; clear HK; clear HB; clear HI0; have BK1119 := n0_; have HK := n1_; have HB := n2_; have HI0 := n3_; clear n0_ n1_ n2_ n3_; (try clear hb); (try clear hb2); (try clear hk); (try clear hi)) | ((with_reducible refine gate_callee (f := 133) rfl ?_); refine goesL_ (some 6) rfl rfl Try.func133 (by kernel_rfl) rfl #[.pointer (some ⟨g, 0, none⟩), .int .i64 5] rfl lm_ ?_; (with_reducible refine (spec_l01Below.calls g s0_0 t1121 t1122 5 t1123 t1124 t1125 w0 _ ?side1 ?side2 A4.out).mono ?_); (case side1 => exact is0_); (case side2 => exact bi0_); rintro e w7 ⟨rfl, hi, hb, hk⟩; refine ⟨_, rfl, ?_⟩; have n0_ := Aside0.mk (KeepBut.blk hk (g' := gb1119) (o := .cells #[.int .i64 0, .int .i64 0, .int .i64 0, .int .i64 0] 129 (0, 0)) (bk_ BK1119.out) NB1119_0.out (by simp)); have n1_ := Aside0.mk (KeepBut.trans (by repeat (first | (with_reducible first | exact HK.out | apply KeepBut.set_ | apply keep_drewN | apply keep_drew | apply keep_alloc | refine keep_far ?_ GW1119.out _) | exact HK.out)) hk (.inl rfl)); have n2_ := Aside0.mk (hb); have n3_ := Aside0.mk (hi); clear BK1119; clear HK; clear HB; clear HI0; have BK1119 := n0_; have HK := n1_; have HB := n2_; have HI0 := n3_; clear n0_ n1_ n2_ n3_; (try clear hb); (try clear hb2); (try clear hk); (try clear hi); have hnb8 := NB1119_0.out; have hnc8 := NB0_1119.out; have hcz9_0 : w7.cell? ⟨gb1119, 0, none⟩ = some (.int .i64 0) := (blk_cell BK1119.out 0).trans rfl; have hcz9_1 : w7.cell? ⟨gb1119, 1, none⟩ = some (.int .i64 0) := (blk_cell BK1119.out 1).trans rfl; have hcz9_2 : w7.cell? ⟨gb1119, 2, none⟩ = some (.int .i64 0) := (blk_cell BK1119.out 2).trans rfl; have hcz9_3 : w7.cell? ⟨gb1119, 3, none⟩ = some (.int .i64 0) := (blk_cell BK1119.out 3).trans rfl; have hfz9_0 := blk_frozen BK1119.out 0; have hfz9_1 := blk_frozen BK1119.out 1; have hfz9_2 := blk_frozen BK1119.out 2; have hfz9_3 := blk_frozen BK1119.out 3))
  refine bodyPost_ret (results_cell_row rfl _ _ gb1119 129 #[.int .i64 2, .int .i64 0, .int .i64 0, .int .i64 (wrap64 (1 + t1123))] (0, 0) _ rfl (by (with_reducible repeat (first | refine blk_drewN ?_ _ | refine blk_drew ?_ | refine blk_alloc ?_ _)); refine blk_put (cs := #[.int .i64 2, .int .i64 0, .int .i64 0, .int .i64 0]) ?_ 3 _ rfl; (with_reducible repeat (first | refine blk_drewN ?_ _ | refine blk_drew ?_ | refine blk_alloc ?_ _)); refine blk_put (cs := #[.int .i64 2, .int .i64 0, .int .i64 0, .int .i64 0]) ?_ 2 _ rfl; (with_reducible repeat (first | refine blk_drewN ?_ _ | refine blk_drew ?_ | refine blk_alloc ?_ _)); refine blk_put (cs := #[.int .i64 2, .int .i64 0, .int .i64 0, .int .i64 0]) ?_ 1 _ rfl; (with_reducible repeat (first | refine blk_drewN ?_ _ | refine blk_drew ?_ | refine blk_alloc ?_ _)); refine blk_put (cs := #[.int .i64 0, .int .i64 0, .int .i64 0, .int .i64 0]) ?_ 0 _ rfl; (with_reducible repeat (first | refine blk_drewN ?_ _ | refine blk_drew ?_ | refine blk_alloc ?_ _)); exact BK1119.out) Try.underlying129 rfl (by kernel_rfl)) rfl ?_
  exact ⟨by first | rfl | (simp [errW_none, errW_some] <;> rfl) | (simp [*, errW_none, errW_some] <;> rfl) | exact False.elim (Bool.noConfusion ((decide_eq_true (of_eq_true (by assumption))).symm.trans (by assumption))), is0_, bi0_, hk_⟩
 ·replace c3 := Bool.eq_false_iff.mpr c3
  subst c3
  rw [if_neg (show ¬ (false = true) by decide)] at H
  replace H := Option.bind_eq_some_iff.mp H
  obtain ⟨⟨t1126, t1127, t1128⟩, A100, H⟩ := H
  try dsimp only at H
  have A10 := Aside0.mk A100
  clear A100
  replace H := Option.bind_eq_some_iff.mp H
  obtain ⟨⟨t1129, t1130, t1131⟩, A110, H⟩ := H
  try dsimp only at H
  have A11 := Aside0.mk A110
  clear A110
  simp only [Option.some.injEq, Prod.mk.injEq] at H
  obtain ⟨rfl, rfl, rfl, rfl, rfl, rfl⟩ := H
  go_enter Try.func177, Try.ntmps177
  go_wp2_with (first | ((with_reducible refine gate_dst (N := 2) rfl ?_); refine box_event ?hg (N := 2) ?hd (cs := #[.int .i64 0, .int .i64 0, .int .i64 0, .int .i64 0]) (t := 129) ?hr ?_; (case hd => rfl); (case hg => rfl); (case hr => first | (go_simp; done) | (go_simp; rfl)); intro gb1119 hg w12 hbox hb; have n0_ := Aside0.mk (IsS163.below is0_ hb); have n1_ := Aside0.mk (KeepBut.trans hk_ (KeepBut.of_below hb g none) (.inl rfl)); have n2_ := Aside0.mk (below_step bi0_ hb); have n3_ := Aside0.mk (hbox); have n4_ := Aside0.mk ((by rw [hg]; exact (keep_size (w := w) (g := g) (row := none) hk_) : w.heap.size ≤ gb1119)); have n5_ := Aside0.mk ((Nat.le_trans HW0.out (by rw [hg]; exact (keep_size (w := w) (g := g) (row := none) hk_) : w.heap.size ≤ gb1119) : w0.heap.size ≤ gb1119)); have n6_ := Aside0.mk ((by rw [hg]; exact Nat.ne_of_lt (IsS163.lt (show IsS163 w0 _ g s0_0 s0_1 s0_2 from is0_)) : g ≠ gb1119)); have n7_ := Aside0.mk ((by rw [hg]; exact Nat.ne_of_gt (IsS163.lt (show IsS163 w0 _ g s0_0 s0_1 s0_2 from is0_)) : gb1119 ≠ g)); clear HI0; clear HK; clear HB; have HI0 := n0_; have HK := n1_; have HB := n2_; have BK1119 := n3_; have GW1119 := n4_; have GE1119 := n5_; have NB0_1119 := n6_; have NB1119_0 := n7_; clear n0_ n1_ n2_ n3_ n4_ n5_ n6_ n7_; clear hb hbox hg) | ((with_reducible refine gate_callee (f := 108) rfl ?_); refine goesL_ (some 4) rfl rfl Try.func108 (by kernel_rfl) rfl #[.pointer (some ⟨g, 0, none⟩), .int .i64 3] rfl lm_ ?_; (with_reducible refine (spec_l01Once.calls g s0_0 s0_1 s0_2 3 false t1121 t1122 w0 _ ?side1 ?side2 A2.out).mono ?_); (case side1 => exact is0_); (case side2 => exact bi0_); rintro e w13 ⟨rfl, hi, hb, hk⟩; refine ⟨_, rfl, ?_⟩; have n0_ := Aside0.mk (KeepBut.blk hk (g' := gb1119) (o := .cells #[.int .i64 0, .int .i64 0, .int .i64 0, .int .i64 0] 129 (0, 0)) (bk_ BK1119.out) NB1119_0.out (by simp)); have n1_ := Aside0.mk (KeepBut.trans (by repeat (first | (with_reducible first | exact HK.out | apply KeepBut.set_ | apply keep_drewN | apply keep_drew | apply keep_alloc | refine keep_far ?_ GW1119.out _) | exact HK.out)) hk (.inl rfl)); have n2_ := Aside0.mk (hb); have n3_ := Aside0.mk (hi); clear BK1119; clear HK; clear HB; clear HI0; have BK1119 := n0_; have HK := n1_; have HB := n2_; have HI0 := n3_; clear n0_ n1_ n2_ n3_; (try clear hb); (try clear hb2); (try clear hk); (try clear hi)) | ((with_reducible refine gate_callee (f := 133) rfl ?_); refine goesL_ (some 10) rfl rfl Try.func133 (by kernel_rfl) rfl #[.pointer (some ⟨g, 0, none⟩), .int .i64 9] rfl lm_ ?_; (with_reducible refine (spec_l01Below.calls g s0_0 t1121 t1122 9 t1126 t1127 t1128 w0 _ ?side1 ?side2 A10.out).mono ?_); (case side1 => exact is0_); (case side2 => exact bi0_); rintro e w14 ⟨rfl, hi, hb, hk⟩; refine ⟨_, rfl, ?_⟩; have n0_ := Aside0.mk (KeepBut.blk hk (g' := gb1119) (o := .cells #[.int .i64 0, .int .i64 0, .int .i64 0, .int .i64 0] 129 (0, 0)) (bk_ BK1119.out) NB1119_0.out (by simp)); have n1_ := Aside0.mk (KeepBut.trans (by repeat (first | (with_reducible first | exact HK.out | apply KeepBut.set_ | apply keep_drewN | apply keep_drew | apply keep_alloc | refine keep_far ?_ GW1119.out _) | exact HK.out)) hk (.inl rfl)); have n2_ := Aside0.mk (hb); have n3_ := Aside0.mk (hi); clear BK1119; clear HK; clear HB; clear HI0; have BK1119 := n0_; have HK := n1_; have HB := n2_; have HI0 := n3_; clear n0_ n1_ n2_ n3_; (try clear hb); (try clear hb2); (try clear hk); (try clear hi)) | ((with_reducible refine gate_callee (f := 194) rfl ?_); refine goesL_ (some 12) rfl rfl Try.func194 (by kernel_rfl) rfl #[.pointer (some ⟨g, 0, none⟩)] rfl lm_ ?_; (with_reducible refine (spec_l04Half.calls g s0_0 t1127 t1128 t1129 t1130 t1131 w0 _ ?side1 ?side2 A11.out).mono ?_); (case side1 => exact is0_); (case side2 => exact bi0_); rintro e w15 ⟨rfl, hi, hb, hk⟩; refine ⟨_, rfl, ?_⟩; have n0_ := Aside0.mk (KeepBut.blk hk (g' := gb1119) (o := .cells #[.int .i64 0, .int .i64 0, .int .i64 0, .int .i64 0] 129 (0, 0)) (bk_ BK1119.out) NB1119_0.out (by simp)); have n1_ := Aside0.mk (KeepBut.trans (by repeat (first | (with_reducible first | exact HK.out | apply KeepBut.set_ | apply keep_drewN | apply keep_drew | apply keep_alloc | refine keep_far ?_ GW1119.out _) | exact HK.out)) hk (.inl rfl)); have n2_ := Aside0.mk (hb); have n3_ := Aside0.mk (hi); clear BK1119; clear HK; clear HB; clear HI0; have BK1119 := n0_; have HK := n1_; have HB := n2_; have HI0 := n3_; clear n0_ n1_ n2_ n3_; (try clear hb); (try clear hb2); (try clear hk); (try clear hi); have hnb16 := NB1119_0.out; have hnc16 := NB0_1119.out; have hcz17_0 : w15.cell? ⟨gb1119, 0, none⟩ = some (.int .i64 0) := (blk_cell BK1119.out 0).trans rfl; have hcz17_1 : w15.cell? ⟨gb1119, 1, none⟩ = some (.int .i64 0) := (blk_cell BK1119.out 1).trans rfl; have hcz17_2 : w15.cell? ⟨gb1119, 2, none⟩ = some (.int .i64 0) := (blk_cell BK1119.out 2).trans rfl; have hcz17_3 : w15.cell? ⟨gb1119, 3, none⟩ = some (.int .i64 0) := (blk_cell BK1119.out 3).trans rfl; have hfz17_0 := blk_frozen BK1119.out 0; have hfz17_1 := blk_frozen BK1119.out 1; have hfz17_2 := blk_frozen BK1119.out 2; have hfz17_3 := blk_frozen BK1119.out 3))
  refine bodyPost_ret (results_cell_row rfl _ _ gb1119 129 #[.int .i64 1, .int .i64 t1126, .int .i64 t1129, .int .i64 0] (0, 0) _ rfl (by (with_reducible repeat (first | refine blk_drewN ?_ _ | refine blk_drew ?_ | refine blk_alloc ?_ _)); refine blk_put (cs := #[.int .i64 1, .int .i64 t1126, .int .i64 t1129, .int .i64 0]) ?_ 3 _ rfl; (with_reducible repeat (first | refine blk_drewN ?_ _ | refine blk_drew ?_ | refine blk_alloc ?_ _)); refine blk_put (cs := #[.int .i64 1, .int .i64 t1126, .int .i64 0, .int .i64 0]) ?_ 2 _ rfl; (with_reducible repeat (first | refine blk_drewN ?_ _ | refine blk_drew ?_ | refine blk_alloc ?_ _)); refine blk_put (cs := #[.int .i64 1, .int .i64 0, .int .i64 0, .int .i64 0]) ?_ 1 _ rfl; (with_reducible repeat (first | refine blk_drewN ?_ _ | refine blk_drew ?_ | refine blk_alloc ?_ _)); refine blk_put (cs := #[.int .i64 0, .int .i64 0, .int .i64 0, .int .i64 0]) ?_ 0 _ rfl; (with_reducible repeat (first | refine blk_drewN ?_ _ | refine blk_drew ?_ | refine blk_alloc ?_ _)); exact BK1119.out) Try.underlying129 rfl (by kernel_rfl)) rfl ?_
  exact ⟨by first | rfl | (simp [errW_none, errW_some] <;> rfl) | (simp [*, errW_none, errW_some] <;> rfl) | exact False.elim (Bool.noConfusion ((decide_eq_true (of_eq_true (by assumption))).symm.trans (by assumption))), is0_, bi0_, hk_⟩


/-! ### spec_l19Entries: function 131 -/
def spec_l19Entries.l0 : Nat → List (S131) → Int → List Int → Int → Int → Option ((List (S131)) × Int × Int)
 | 0, _, _, _, _, _ => none
 | k + 1, x3, x4, x1000, x1001, x1002 => (spec_l01Below.f x1000 x1001 x1002 6).bind fun bt1135 => (if x4 < bt1135.1 then ((spec_l01Below.f x1000 bt1135.2.1 bt1135.2.2 3).bind fun bt1138 => ((spec_l01Below.f x1000 bt1138.2.1 bt1138.2.2 5).bind fun bt1141 => ((spec_l17Item.f x1000 bt1141.2.1 bt1141.2.2).bind fun bt1144 => (if x3.length < 2932031007402 then (spec_l19Entries.l0 k (x3 ++ [(⟨bt1138.1, wrap64 (1 + bt1141.1), (⟨bt1144.1, bt1144.2.1, bt1144.2.2.1, bt1144.2.2.2.1⟩ : S129)⟩ : S131)]) (wrap64 (x4 + 1)) x1000 bt1144.2.2.2.2.1 bt1144.2.2.2.2.2) else (none))))) else (some (x3, bt1135.2.1, bt1135.2.2)))
def spec_l19Entries.f (k : Nat) (s0_0 : List Int) (s0_1 : Int) (s0_2 : Int) : Option ((List (S131)) × Int × Int) := spec_l19Entries.l0 k (([] : List (S131))) 0 s0_0 s0_1 s0_2
theorem spec_l19Entries.mono_l : ∀ k, (∀ y0 y1 y2 y3 y4, LeO (spec_l19Entries.l0 k y0 y1 y2 y3 y4) (spec_l19Entries.l0 (k + 1) y0 y1 y2 y3 y4))
 | 0 => fun _ _ _ _ _ r h => by simp [spec_l19Entries.l0] at h
 | k + 1 => by
  have ih0 := spec_l19Entries.mono_l k
  ·intro y0 y1 y2 y3 y4
   unfold spec_l19Entries.l0
   repeat' first
   | (with_reducible exact ih0 _ _ _ _ _)
   | (with_reducible exact LeO.refl _)
   | (with_reducible exact LeO.none _)
   | (with_reducible refine LeO.ite ?_ ?_)
   | (with_reducible refine LeO.bind ?_ (fun _ => ?_))
   | exact ih0 _ _ _ _ _
   | exact LeO.none _
   | refine LeO.ite ?_ ?_
   | refine LeO.bind ?_ (fun _ => ?_)
theorem spec_l19Entries.mono : ∀ a0 a1 a2 k, LeO (spec_l19Entries.f k a0 a1 a2) (spec_l19Entries.f (k + 1) a0 a1 a2) := by
 intro a0 a1 a2 k
 have ih0 := spec_l19Entries.mono_l k
 unfold spec_l19Entries.f
 repeat' first
  | (with_reducible exact ih0 _ _ _ _ _)
  | (with_reducible exact LeO.refl _)
  | (with_reducible exact LeO.none _)
  | (with_reducible refine LeO.ite ?_ ?_)
  | (with_reducible refine LeO.bind ?_ (fun _ => ?_))
  | exact ih0 _ _ _ _ _
  | exact LeO.none _
  | refine LeO.ite ?_ ?_
  | refine LeO.bind ?_ (fun _ => ?_)
set_option maxHeartbeats 8000000 in
set_option maxRecDepth 100000 in
theorem spec_l19Entries.calls (k : Nat) (g : Nat) (s0_0 : List Int) (s0_1 : Int) (s0_2 : Int) (r1 : List (S131)) (r2 : Int) (r3 : Int) (w0 w : World) (hI : IsS163 w0 w g s0_0 s0_1 s0_2) (hB : Below w0.heap.size w0 w) (h : spec_l19Entries.f k s0_0 s0_1 s0_2 = some (r1, r2, r3)) :
 Calls Try.prog 131 #[.pointer (some ⟨g, 0, none⟩)] w fun e w' => ∃ v0_ : Value, e = .returned (v0_) ∧ Kd.R k131 131 w' w.heap.size (fun _ => True) v0_ r1 ∧ IsS163 w0 w' g s0_0 r2 r3 ∧ Below w0.heap.size w0 w' ∧ KeepBut w w' g none := by
 have hu131 := Try.underlying131
 have HI0 := Aside0.mk hI
 have HK := Aside0.mk (KeepBut.refl w g none)
 have HL := Aside0.mk hB.size
 clear hI
 have HW0 := Aside0.mk hB.size
 have HB := Aside0.mk hB
 clear hB
 have H : (spec_l19Entries.l0 k (([] : List (S131))) 0 s0_0 s0_1 s0_2) = some (r1, r2, r3) := h
 clear h
 obtain ⟨y1132, hy1132⟩ : ∃ y_ : List (S131), y_ = (([] : List (S131))) := ⟨_, rfl⟩
 replace H : (spec_l19Entries.l0 k y1132 0 s0_0 s0_1 s0_2) = some (r1, r2, r3) := by first | (rw [hy1132]; with_reducible exact H) | (have H2_ := (Option.bind_some _ _).symm.trans H; rw [hy1132]; with_reducible exact H2_) | (have H2_ := (Option.bind_some _ _).symm.trans H; with_reducible exact H2_) | with_reducible exact H | (rw [hy1132]; exact H) | exact H
 have Ny1132 := Aside0.mk hy1132
 clear hy1132
 have H' := Aside0.mk H
 clear H
 go_enter Try.func131, Try.ntmps131
 go_wp2_with (first | ((with_reducible refine gate_dst (N := 5) rfl ?_); refine Kd.R_lit k131 _ 131 ?hg (N := 5) ?hd (xs := ([] : List (S131))) (inner := []) (ok := fun _ => True) (okp := fun _ => True) ?hr ?hp (fun _ hk => hk) trivial (Below.refl _ _) (Nat.le_refl _) (by simp) ?_; (case hd => rfl); (case hg => rfl); (case hr => first | (go_simp; done) | (go_simp; rfl)); (case hp => exact (Reps.none _ _)); intro v1133 w2 ho3 hb hg_ hnew_; clear hg_ hnew_; (first | rw [← Ny1132.out] at ho3 | (simp only [Int.reduceToNat] at ho3; rw [← Ny1132.out] at ho3)); have n0_ := Aside0.mk (Kd.R_lower ho3 (keep_size (w := w) (g := g) (row := none) hk_)); have n1_ := Aside0.mk (IsS163.below is0_ hb); have n2_ := Aside0.mk (KeepBut.trans hk_ (KeepBut.of_below hb g none) (.inl rfl)); have n3_ := Aside0.mk (below_step bi0_ hb); clear HI0; clear HK; clear HB; have HO1134 := n0_; have HI0 := n1_; have HK := n2_; have HB := n3_; clear n0_ n1_ n2_ n3_; clear hb ho3))
 go_loopg [3, 4] k (fun kq v3 v4 w' => ∃ (x3_1 : List (S131)) (x4_1 : Int) (x1001_1 : Int) (x1002_1 : Int), v4 = .int .i64 x4_1 ∧ Aside0 (spec_l19Entries.l0 kq x3_1 x4_1 s0_0 x1001_1 x1002_1 = some (r1, r2, r3)) ∧ Aside0 (kq ≤ k) ∧ Aside0 (Kd.R k131 131 w' w.heap.size (fun _ => True) v3 x3_1) ∧ Aside0 (IsS163 w0 w' g s0_0 x1001_1 x1002_1) ∧ Aside0 (KeepBut w w' g none) ∧ Aside0 (Below w0.heap.size w0 w'))
 case atStart => exact ⟨(y1132), (0), (s0_1), (s0_2), (by first | rfl | (simp; done) | (simp [*]; done)), H', ⟨Nat.le_refl _⟩, ⟨ra_ HO1134.out⟩, ⟨is0_⟩, ⟨hk_⟩, ⟨bi0_⟩⟩
 case round =>
  clear H'
  try clear c1
  try clear p2
  obtain ⟨x3_1, x4_1, x1001_1, x1002_1, rfl, HA, HK1, HO_3, HI0, HK, HB⟩ := hrel
  cases gk with
  | zero => exact absurd HA.out (by simp [spec_l19Entries.l0])
  | succ k1 =>
   have H := HA.out
   clear HA
   simp only [spec_l19Entries.l0] at H
   replace H := Option.bind_eq_some_iff.mp H
   obtain ⟨⟨t1135, t1136, t1137⟩, A40, H⟩ := H
   try dsimp only at H
   have A4 := Aside0.mk A40
   clear A40
   by_cases c5 : x4_1 < t1135
   ·rw [if_pos c5] at H
    have c5b0 : decide (x4_1 < t1135) = true := decide_eq_true c5
    clear c5
    replace H := Option.bind_eq_some_iff.mp H
    obtain ⟨⟨t1138, t1139, t1140⟩, A60, H⟩ := H
    try dsimp only at H
    have A6 := Aside0.mk A60
    clear A60
    replace H := Option.bind_eq_some_iff.mp H
    obtain ⟨⟨t1141, t1142, t1143⟩, A70, H⟩ := H
    try dsimp only at H
    have A7 := Aside0.mk A70
    clear A70
    replace H := Option.bind_eq_some_iff.mp H
    obtain ⟨⟨t1144, t1145, t1146, t1147, t1148, t1149⟩, A80, H⟩ := H
    try dsimp only at H
    have A8 := Aside0.mk A80
    clear A80
    by_cases c9 : x3_1.length < 2932031007402
    ·rw [if_pos c9] at H
     have LMc9 := Aside0.mk c9
     clear c9
     obtain ⟨y1150, hy1150⟩ : ∃ y_ : List (S131), y_ = (x3_1 ++ [(⟨t1138, wrap64 (1 + t1141), (⟨t1144, t1145, t1146, t1147⟩ : S129)⟩ : S131)]) := ⟨_, rfl⟩
     replace H : (spec_l19Entries.l0 k1 y1150 (wrap64 (x4_1 + 1)) s0_0 t1148 t1149) = some (r1, r2, r3) := by first | (rw [hy1150]; with_reducible exact H) | (have H2_ := (Option.bind_some _ _).symm.trans H; rw [hy1150]; with_reducible exact H2_) | (have H2_ := (Option.bind_some _ _).symm.trans H; with_reducible exact H2_) | with_reducible exact H | (rw [hy1150]; exact H) | exact H
     have Ny1150 := Aside0.mk hy1150
     clear hy1150
     have H' := Aside0.mk H
     clear H
     go_wp2_with (first | ((with_reducible refine gate_callee (f := 133) rfl ?_); refine goesL_ (some 8) rfl rfl Try.func133 (by kernel_rfl) rfl #[.pointer (some ⟨g, 0, none⟩), .int .i64 6] rfl lm_ ?_; (with_reducible refine (spec_l01Below.calls g s0_0 x1001_1 x1002_1 6 t1135 t1136 t1137 w0 _ ?side1 ?side2 A4.out).mono ?_); (case side1 => exact is0_); (case side2 => exact bi0_); rintro e w10 ⟨rfl, hi, hb, hk⟩; refine ⟨_, rfl, ?_⟩; have n0_ := Aside0.mk (Kd.R_mono (Kd.R_keep (IsS163.apart (show IsS163 w0 _ g s0_0 x1001_1 x1002_1 from is0_) (ra_ HO_3.out) (by decide)) hk (fun _ h => h.2)) (fun _ h => h.1)); have n1_ := Aside0.mk (KeepBut.trans hk_ hk (.inl rfl)); have n2_ := Aside0.mk (hb); have n3_ := Aside0.mk (hi); clear HO_3; clear HK; clear HB; clear HI0; have HO_3 := n0_; have HK := n1_; have HB := n2_; have HI0 := n3_; clear n0_ n1_ n2_ n3_; (try clear hb); (try clear hb2); (try clear hk); (try clear hi)) | ((with_reducible refine gate_callee (f := 133) rfl ?_); refine goesL_ (some 14) rfl rfl Try.func133 (by kernel_rfl) rfl #[.pointer (some ⟨g, 0, none⟩), .int .i64 3] rfl lm_ ?_; (with_reducible refine (spec_l01Below.calls g s0_0 t1136 t1137 3 t1138 t1139 t1140 w0 _ ?side1 ?side2 A6.out).mono ?_); (case side1 => exact is0_); (case side2 => exact bi0_); rintro e w11 ⟨rfl, hi, hb, hk⟩; refine ⟨_, rfl, ?_⟩; have n0_ := Aside0.mk (Kd.R_mono (Kd.R_keep (IsS163.apart (show IsS163 w0 _ g s0_0 t1136 t1137 from is0_) (ra_ HO_3.out) (by decide)) hk (fun _ h => h.2)) (fun _ h => h.1)); have n1_ := Aside0.mk (KeepBut.trans hk_ hk (.inl rfl)); have n2_ := Aside0.mk (hb); have n3_ := Aside0.mk (hi); clear HO_3; clear HK; clear HB; clear HI0; have HO_3 := n0_; have HK := n1_; have HB := n2_; have HI0 := n3_; clear n0_ n1_ n2_ n3_; (try clear hb); (try clear hb2); (try clear hk); (try clear hi)) | ((with_reducible refine gate_callee (f := 133) rfl ?_); refine goesL_ (some 16) rfl rfl Try.func133 (by kernel_rfl) rfl #[.pointer (some ⟨g, 0, none⟩), .int .i64 5] rfl lm_ ?_; (with_reducible refine (spec_l01Below.calls g s0_0 t1139 t1140 5 t1141 t1142 t1143 w0 _ ?side1 ?side2 A7.out).mono ?_); (case side1 => exact is0_); (case side2 => exact bi0_); rintro e w12 ⟨rfl, hi, hb, hk⟩; refine ⟨_, rfl, ?_⟩; have n0_ := Aside0.mk (Kd.R_mono (Kd.R_keep (IsS163.apart (show IsS163 w0 _ g s0_0 t1139 t1140 from is0_) (ra_ HO_3.out) (by decide)) hk (fun _ h => h.2)) (fun _ h => h.1)); have n1_ := Aside0.mk (KeepBut.trans hk_ hk (.inl rfl)); have n2_ := Aside0.mk (hb); have n3_ := Aside0.mk (hi); clear HO_3; clear HK; clear HB; clear HI0; have HO_3 := n0_; have HK := n1_; have HB := n2_; have HI0 := n3_; clear n0_ n1_ n2_ n3_; (try clear hb); (try clear hb2); (try clear hk); (try clear hi)) | ((with_reducible refine gate_callee (f := 177) rfl ?_); refine goesL_ (some 19) rfl rfl Try.func177 (by kernel_rfl) rfl #[.pointer (some ⟨g, 0, none⟩)] rfl lm_ ?_; (with_reducible refine (spec_l17Item.calls g s0_0 t1142 t1143 t1144 t1145 t1146 t1147 t1148 t1149 w0 _ ?side1 ?side2 A8.out).mono ?_); (case side1 => exact is0_); (case side2 => exact bi0_); rintro e w13 ⟨rfl, hi, hb, hk⟩; refine ⟨_, rfl, ?_⟩; have n0_ := Aside0.mk (Kd.R_mono (Kd.R_keep (IsS163.apart (show IsS163 w0 _ g s0_0 t1142 t1143 from is0_) (ra_ HO_3.out) (by decide)) hk (fun _ h => h.2)) (fun _ h => h.1)); have n1_ := Aside0.mk (KeepBut.trans hk_ hk (.inl rfl)); have n2_ := Aside0.mk (hb); have n3_ := Aside0.mk (hi); clear HO_3; clear HK; clear HB; clear HI0; have HO_3 := n0_; have HK := n1_; have HB := n2_; have HI0 := n3_; clear n0_ n1_ n2_ n3_; (try clear hb); (try clear hb2); (try clear hk); (try clear hi)) | ((with_reducible refine gate_builtin (b := .append) (xs := #[.tmp 12, .tmp 21]) rfl ?_); at_builtin; refine Kd.R_append k131 w.heap.size rfl (.tmp 12) (.tmp 21) 50 131 (.agg #[(.int .i64 0), (.int .i64 0), (.int .i64 0), (.int .i64 0), (.int .i64 0), (.int .i64 0)]) 48 rfl Try.underlying50 info131 rfl (by decide) (by omega) u3 x3_1 (⟨t1138, wrap64 (1 + t1141), (⟨t1144, t1145, t1146, t1147⟩ : S129)⟩ : S131) [.int .i64 t1138, .int .i64 (wrap64 (1 + t1141)), .int .i64 t1144, .int .i64 t1145, .int .i64 t1146, .int .i64 t1147] (fun _ => True) (fun _ => False) rfl rfl ?aP (fun _ hk => hk.elim) ?aF ?aO (Below.refl _ _) ?aS ?aL ?_; (case aP => exact k131_mkM _ _ _ (⟨t1138, wrap64 (1 + t1141), (⟨t1144, t1145, t1146, t1147⟩ : S129)⟩ : S131)); (case aF => exact (fun _ _ => trivial)); (case aO => exact (ra_ HO_3.out)); (case aS => exact (keep_size (w := w) (g := g) (row := none) hk_)); (case aL => have := LMc9.out; omega); intro v1151 w14 ho hb hg hat; rw [← Ny1150.out] at ho; have n0_ := Aside0.mk (IsS163.grown (show IsS163 w0 _ g s0_0 t1148 t1149 from is0_) hg (IsS163.own_ne HI0.out HO_3.out (by decide))); have n1_ := Aside0.mk (below_weaken bi0_ HL.out hb); have n2_ := Aside0.mk (KeepBut.trans hk_ (KeepBut.of_grown hg g) (Kd.R_base2 HO_3.out)); have n3_ := Aside0.mk (ho); clear HI0; clear HB; clear HK; clear HO_3; have HI0 := n0_; have HB := n1_; have HK := n2_; have HO1152 := n3_; clear n0_ n1_ n2_ n3_; clear ho hb hg hat))
     go_roundg k1
     case measure => have := HK1.out; omega
     case rel => exact ⟨(y1150), (wrap64 (x4_1 + 1)), (t1148), (t1149), (by first | rfl | (simp; done) | (simp [*]; done)), H', ⟨by have := HK1.out; omega⟩, ⟨ra_ HO1152.out⟩, ⟨is0_⟩, ⟨hk_⟩, ⟨bi0_⟩⟩
    ·rw [if_neg c9] at H
     exact absurd H (by simp)
   ·rw [if_neg c5] at H
    have c5b0 : decide (x4_1 < t1135) = false := decide_eq_false c5
    clear c5
    simp only [Option.some.injEq, Prod.mk.injEq] at H
    obtain ⟨rfl, rfl, rfl⟩ := H
    go_wp2_with (first | ((with_reducible refine gate_callee (f := 133) rfl ?_); refine goesL_ (some 8) rfl rfl Try.func133 (by kernel_rfl) rfl #[.pointer (some ⟨g, 0, none⟩), .int .i64 6] rfl lm_ ?_; (with_reducible refine (spec_l01Below.calls g s0_0 x1001_1 x1002_1 6 t1135 t1136 t1137 w0 _ ?side1 ?side2 A4.out).mono ?_); (case side1 => exact is0_); (case side2 => exact bi0_); rintro e w15 ⟨rfl, hi, hb, hk⟩; refine ⟨_, rfl, ?_⟩; have n0_ := Aside0.mk (Kd.R_mono (Kd.R_keep (IsS163.apart (show IsS163 w0 _ g s0_0 x1001_1 x1002_1 from is0_) (ra_ HO_3.out) (by decide)) hk (fun _ h => h.2)) (fun _ h => h.1)); have n1_ := Aside0.mk (KeepBut.trans hk_ hk (.inl rfl)); have n2_ := Aside0.mk (hb); have n3_ := Aside0.mk (hi); clear HO_3; clear HK; clear HB; clear HI0; have HO_3 := n0_; have HK := n1_; have HB := n2_; have HI0 := n3_; clear n0_ n1_ n2_ n3_; (try clear hb); (try clear hb2); (try clear hk); (try clear hi)))
    go_ret
    exact ⟨_, by first | rfl | (simp [errW_none, errW_some] <;> rfl) | (simp [*, errW_none, errW_some] <;> rfl) | exact False.elim (Bool.noConfusion ((decide_eq_true (of_eq_true (by assumption))).symm.trans (by assumption))), ra_ HO_3.out, is0_, bi0_, hk_⟩


/-! ### impl_ToldBy: function 55 -/
def impl_ToldBy.l0 : Nat → Int → Int → List (S131) → Int → Int → Option (Int)
 | 0, _, _, _, _, _ => none
 | k + 1, x1, x5, x8, x9, x10 => if x10 < x9 then (if 0 ≤ x10 then (if x10 < (x8.length : Int) then (if ((rd_T131 x8 x10).f0) = x1 then (if ((rd_T131 x8 x10).f2.f0) = 1 then (impl_ToldBy.l0 k x1 (wrap64 (x5 + 1)) x8 x9 (wrap64 (x10 + 1))) else (impl_ToldBy.l0 k x1 x5 x8 x9 (wrap64 (x10 + 1)))) else (impl_ToldBy.l0 k x1 x5 x8 x9 (wrap64 (x10 + 1)))) else (none)) else (none)) else (some x5)
def impl_ToldBy.f (k : Nat) (l0 : List (S131)) (a1 : Int) : Option (Int) := impl_ToldBy.l0 k a1 0 l0 (l0.length : Int) 0
theorem impl_ToldBy.mono_l : ∀ k, (∀ y0 y1 y2 y3 y4, LeO (impl_ToldBy.l0 k y0 y1 y2 y3 y4) (impl_ToldBy.l0 (k + 1) y0 y1 y2 y3 y4))
 | 0 => fun _ _ _ _ _ r h => by simp [impl_ToldBy.l0] at h
 | k + 1 => by
  have ih0 := impl_ToldBy.mono_l k
  ·intro y0 y1 y2 y3 y4
   unfold impl_ToldBy.l0
   repeat' first
   | (with_reducible exact ih0 _ _ _ _ _)
   | (with_reducible exact LeO.refl _)
   | (with_reducible exact LeO.none _)
   | (with_reducible refine LeO.ite ?_ ?_)
   | (with_reducible refine LeO.bind ?_ (fun _ => ?_))
   | exact ih0 _ _ _ _ _
   | exact LeO.none _
   | refine LeO.ite ?_ ?_
   | refine LeO.bind ?_ (fun _ => ?_)
theorem impl_ToldBy.mono : ∀ a0 a1 k, LeO (impl_ToldBy.f k a0 a1) (impl_ToldBy.f (k + 1) a0 a1) := by
 intro a0 a1 k
 have ih0 := impl_ToldBy.mono_l k
 unfold impl_ToldBy.f
 repeat' first
  | (with_reducible exact ih0 _ _ _ _ _)
  | (with_reducible exact LeO.refl _)
  | (with_reducible exact LeO.none _)
  | (with_reducible refine LeO.ite ?_ ?_)
  | (with_reducible refine LeO.bind ?_ (fun _ => ?_))
  | exact ih0 _ _ _ _ _
  | exact LeO.none _
  | refine LeO.ite ?_ ?_
  | refine LeO.bind ?_ (fun _ => ?_)
set_option maxHeartbeats 8000000 in
set_option maxRecDepth 100000 in
theorem impl_ToldBy.calls (k : Nat) (A0 : Option Addr) (c0 : Nat) (l0 : List (S131)) (a1 : Int) (r : Int) (w : World) (hr0 : Kd.C k131 w A0 l0.length l0) (hc0 : l0.length ≤ c0) (h : impl_ToldBy.f k l0 a1 = some r) :
 Calls Try.prog 55 #[.slice A0 l0.length c0, .int .i64 a1] w fun e w' => e = .returned (.int .i64 r) ∧ Below w.heap.size w w' := by
 have hu131 := Try.underlying131
 have HR0 := Aside0.mk hr0
 have HC0 := Aside0.mk hc0
 clear hr0 hc0
 have HB := Aside0.mk (Below.refl w.heap.size w)
 have H : (impl_ToldBy.l0 k a1 0 l0 (l0.length : Int) 0) = some r := h
 clear h
 have H' := Aside0.mk H
 clear H
 go_enter Try.func55, Try.ntmps55
 go_wp2
 go_loopg [5, 10] k (fun kq v5 v10 w' => ∃ (x5_1 : Int) (x10_1 : Int), v5 = .int .i64 x5_1 ∧ v10 = .int .i64 x10_1 ∧ Aside0 (impl_ToldBy.l0 kq a1 x5_1 l0 (l0.length : Int) x10_1 = some r) ∧ Aside0 (kq ≤ k) ∧ Aside0 (Below w.heap.size w w'))
 case atStart => exact ⟨(0), (0), (by first | rfl | (simp; done) | (simp [*]; done)), (by first | rfl | (simp; done) | (simp [*]; done)), H', ⟨Nat.le_refl _⟩, ⟨bl_⟩⟩
 case round =>
  clear H'
  try clear p2
  obtain ⟨x5_1, x10_1, rfl, rfl, HA, HK1, HB⟩ := hrel
  cases gk with
  | zero => exact absurd HA.out (by simp [impl_ToldBy.l0])
  | succ k1 =>
   have H := HA.out
   clear HA
   simp only [impl_ToldBy.l0] at H
   by_cases c3 : x10_1 < (l0.length : Int)
   ·rw [if_pos c3] at H
    have c3b0 : decide (x10_1 < (l0.length : Int)) = true := decide_eq_true c3
    clear c3
    by_cases c4 : 0 ≤ x10_1
    ·rw [if_pos c4] at H
     have c4b0 : decide (0 ≤ x10_1) = true := decide_eq_true c4
     clear c4
     by_cases c5 : x10_1 < (l0.length : Int)
     ·rw [if_pos c5] at H
      have c5b0 : decide (x10_1 < (l0.length : Int)) = true := decide_eq_true c5
      clear c5
      by_cases c6 : ((rd_T131 l0 x10_1).f0) = a1
      ·rw [if_pos c6] at H
       have c6b0 : (((rd_T131 l0 x10_1).f0) == a1) = true := beq_iff_eq.mpr c6
       have c6b1 : (((rd_T131 l0 x10_1).f0) != a1) = false := bne_eq_false_iff_eq.mpr c6
       clear c6
       by_cases c7 : ((rd_T131 l0 x10_1).f2.f0) = 1
       ·rw [if_pos c7] at H
        have c7b0 : (((rd_T131 l0 x10_1).f2.f0) == 1) = true := beq_iff_eq.mpr c7
        have c7b1 : (((rd_T131 l0 x10_1).f2.f0) != 1) = false := bne_eq_false_iff_eq.mpr c7
        clear c7
        have H' := Aside0.mk H
        clear H
        have p1162 : 0 ≤ (x10_1 : Int) := of_decide_eq_true as_
        have q1162 : x10_1 < (l0.length : Int) := of_decide_eq_true as_
        obtain ⟨ad1162, e1162, hx1162_0, hx1162_1, hx1162_2, hx1162_3, hx1162_4, hx1162_5⟩ := at_T131 HR0.out x10_1 p1162 q1162
        cases e1162
        replace hx1162_0 := (HB.out.cell (World.block_lt_of_cell? w _ hx1162_0)).trans hx1162_0
        replace hx1162_1 := (HB.out.cell (World.block_lt_of_cell? w _ hx1162_1)).trans hx1162_1
        replace hx1162_2 := (HB.out.cell (World.block_lt_of_cell? w _ hx1162_2)).trans hx1162_2
        replace hx1162_3 := (HB.out.cell (World.block_lt_of_cell? w _ hx1162_3)).trans hx1162_3
        replace hx1162_4 := (HB.out.cell (World.block_lt_of_cell? w _ hx1162_4)).trans hx1162_4
        replace hx1162_5 := (HB.out.cell (World.block_lt_of_cell? w _ hx1162_5)).trans hx1162_5
        replace p1162 := eq_true p1162
        replace q1162 := eq_true q1162
        go_wp2_with (first | ((with_reducible refine gate_dst (N := 7) rfl ?_); refine box_event ?hg (N := 7) ?hd (cs := #[.int .i64 0, .int .i64 0, .int .i64 0, .int .i64 0, .int .i64 0, .int .i64 0]) (t := 131) ?hr ?_; (case hd => rfl); (case hg => rfl); (case hr => first | (go_simp; done) | (go_simp; rfl)); intro gb1163 hg w8 hbox hb; have n0_ := Aside0.mk (below_step bl_ hb); have n1_ := Aside0.mk (hbox); have n2_ := Aside0.mk ((hz_ : w.heap.size ≤ gb1163)); have n3_ := Aside0.mk ((hz_ : w.heap.size ≤ gb1163)); clear HB; have HB := n0_; have BK1163 := n1_; have GW1163 := n2_; have GE1163 := n3_; clear n0_ n1_ n2_ n3_; clear hb hbox hg; have hcz9_0 : w8.cell? ⟨gb1163, 0, none⟩ = some (.int .i64 0) := (blk_cell BK1163.out 0).trans rfl; have hcz9_1 : w8.cell? ⟨gb1163, 1, none⟩ = some (.int .i64 0) := (blk_cell BK1163.out 1).trans rfl; have hcz9_2 : w8.cell? ⟨gb1163, 2, none⟩ = some (.int .i64 0) := (blk_cell BK1163.out 2).trans rfl; have hcz9_3 : w8.cell? ⟨gb1163, 3, none⟩ = some (.int .i64 0) := (blk_cell BK1163.out 3).trans rfl; have hcz9_4 : w8.cell? ⟨gb1163, 4, none⟩ = some (.int .i64 0) := (blk_cell BK1163.out 4).trans rfl; have hcz9_5 : w8.cell? ⟨gb1163, 5, none⟩ = some (.int .i64 0) := (blk_cell BK1163.out 5).trans rfl; have hfz9_0 := blk_frozen BK1163.out 0; have hfz9_1 := blk_frozen BK1163.out 1; have hfz9_2 := blk_frozen BK1163.out 2; have hfz9_3 := blk_frozen BK1163.out 3; have hfz9_4 := blk_frozen BK1163.out 4; have hfz9_5 := blk_frozen BK1163.out 5))
        go_roundg k1
        case measure => have := HK1.out; omega
        case rel => exact ⟨(wrap64 (x5_1 + 1)), (wrap64 (x10_1 + 1)), (by first | rfl | (simp; done) | (simp [*]; done)), (by first | rfl | (simp; done) | (simp [*]; done)), H', ⟨by have := HK1.out; omega⟩, ⟨bl_⟩⟩
       ·rw [if_neg c7] at H
        have c7b0 : (((rd_T131 l0 x10_1).f2.f0) == 1) = false := beq_eq_false_iff_ne.mpr c7
        have c7b1 : (((rd_T131 l0 x10_1).f2.f0) != 1) = true := bne_iff_ne.mpr c7
        have H' := Aside0.mk H
        clear H
        have p1162 : 0 ≤ (x10_1 : Int) := of_decide_eq_true as_
        have q1162 : x10_1 < (l0.length : Int) := of_decide_eq_true as_
        obtain ⟨ad1162, e1162, hx1162_0, hx1162_1, hx1162_2, hx1162_3, hx1162_4, hx1162_5⟩ := at_T131 HR0.out x10_1 p1162 q1162
        cases e1162
        replace hx1162_0 := (HB.out.cell (World.block_lt_of_cell? w _ hx1162_0)).trans hx1162_0
        replace hx1162_1 := (HB.out.cell (World.block_lt_of_cell? w _ hx1162_1)).trans hx1162_1
        replace hx1162_2 := (HB.out.cell (World.block_lt_of_cell? w _ hx1162_2)).trans hx1162_2
        replace hx1162_3 := (HB.out.cell (World.block_lt_of_cell? w _ hx1162_3)).trans hx1162_3
        replace hx1162_4 := (HB.out.cell (World.block_lt_of_cell? w _ hx1162_4)).trans hx1162_4
        replace hx1162_5 := (HB.out.cell (World.block_lt_of_cell? w _ hx1162_5)).trans hx1162_5
        replace p1162 := eq_true p1162
        replace q1162 := eq_true q1162
        go_wp2_with (first | ((with_reducible refine gate_dst (N := 7) rfl ?_); refine box_event ?hg (N := 7) ?hd (cs := #[.int .i64 0, .int .i64 0, .int .i64 0, .int .i64 0, .int .i64 0, .int .i64 0]) (t := 131) ?hr ?_; (case hd => rfl); (case hg => rfl); (case hr => first | (go_simp; done) | (go_simp; rfl)); intro gb1163 hg w10 hbox hb; have n0_ := Aside0.mk (below_step bl_ hb); have n1_ := Aside0.mk (hbox); have n2_ := Aside0.mk ((hz_ : w.heap.size ≤ gb1163)); have n3_ := Aside0.mk ((hz_ : w.heap.size ≤ gb1163)); clear HB; have HB := n0_; have BK1163 := n1_; have GW1163 := n2_; have GE1163 := n3_; clear n0_ n1_ n2_ n3_; clear hb hbox hg; have hcz11_0 : w10.cell? ⟨gb1163, 0, none⟩ = some (.int .i64 0) := (blk_cell BK1163.out 0).trans rfl; have hcz11_1 : w10.cell? ⟨gb1163, 1, none⟩ = some (.int .i64 0) := (blk_cell BK1163.out 1).trans rfl; have hcz11_2 : w10.cell? ⟨gb1163, 2, none⟩ = some (.int .i64 0) := (blk_cell BK1163.out 2).trans rfl; have hcz11_3 : w10.cell? ⟨gb1163, 3, none⟩ = some (.int .i64 0) := (blk_cell BK1163.out 3).trans rfl; have hcz11_4 : w10.cell? ⟨gb1163, 4, none⟩ = some (.int .i64 0) := (blk_cell BK1163.out 4).trans rfl; have hcz11_5 : w10.cell? ⟨gb1163, 5, none⟩ = some (.int .i64 0) := (blk_cell BK1163.out 5).trans rfl; have hfz11_0 := blk_frozen BK1163.out 0; have hfz11_1 := blk_frozen BK1163.out 1; have hfz11_2 := blk_frozen BK1163.out 2; have hfz11_3 := blk_frozen BK1163.out 3; have hfz11_4 := blk_frozen BK1163.out 4; have hfz11_5 := blk_frozen BK1163.out 5))
        go_roundg k1
        case measure => have := HK1.out; omega
        case rel => exact ⟨(x5_1), (wrap64 (x10_1 + 1)), (by first | rfl | (simp; done) | (simp [*]; done)), (by first | rfl | (simp; done) | (simp [*]; done)), H', ⟨by have := HK1.out; omega⟩, ⟨bl_⟩⟩
      ·rw [if_neg c6] at H
       have c6b0 : (((rd_T131 l0 x10_1).f0) == a1) = false := beq_eq_false_iff_ne.mpr c6
       have c6b1 : (((rd_T131 l0 x10_1).f0) != a1) = true := bne_iff_ne.mpr c6
       have H' := Aside0.mk H
       clear H
       have p1162 : 0 ≤ (x10_1 : Int) := of_decide_eq_true as_
       have q1162 : x10_1 < (l0.length : Int) := of_decide_eq_true as_
       obtain ⟨ad1162, e1162, hx1162_0, hx1162_1, hx1162_2, hx1162_3, hx1162_4, hx1162_5⟩ := at_T131 HR0.out x10_1 p1162 q1162
       cases e1162
       replace hx1162_0 := (HB.out.cell (World.block_lt_of_cell? w _ hx1162_0)).trans hx1162_0
       replace hx1162_1 := (HB.out.cell (World.block_lt_of_cell? w _ hx1162_1)).trans hx1162_1
       replace hx1162_2 := (HB.out.cell (World.block_lt_of_cell? w _ hx1162_2)).trans hx1162_2
       replace hx1162_3 := (HB.out.cell (World.block_lt_of_cell? w _ hx1162_3)).trans hx1162_3
       replace hx1162_4 := (HB.out.cell (World.block_lt_of_cell? w _ hx1162_4)).trans hx1162_4
       replace hx1162_5 := (HB.out.cell (World.block_lt_of_cell? w _ hx1162_5)).trans hx1162_5
       replace p1162 := eq_true p1162
       replace q1162 := eq_true q1162
       go_wp2_with (first | ((with_reducible refine gate_dst (N := 7) rfl ?_); refine box_event ?hg (N := 7) ?hd (cs := #[.int .i64 0, .int .i64 0, .int .i64 0, .int .i64 0, .int .i64 0, .int .i64 0]) (t := 131) ?hr ?_; (case hd => rfl); (case hg => rfl); (case hr => first | (go_simp; done) | (go_simp; rfl)); intro gb1163 hg w12 hbox hb; have n0_ := Aside0.mk (below_step bl_ hb); have n1_ := Aside0.mk (hbox); have n2_ := Aside0.mk ((hz_ : w.heap.size ≤ gb1163)); have n3_ := Aside0.mk ((hz_ : w.heap.size ≤ gb1163)); clear HB; have HB := n0_; have BK1163 := n1_; have GW1163 := n2_; have GE1163 := n3_; clear n0_ n1_ n2_ n3_; clear hb hbox hg; have hcz13_0 : w12.cell? ⟨gb1163, 0, none⟩ = some (.int .i64 0) := (blk_cell BK1163.out 0).trans rfl; have hcz13_1 : w12.cell? ⟨gb1163, 1, none⟩ = some (.int .i64 0) := (blk_cell BK1163.out 1).trans rfl; have hcz13_2 : w12.cell? ⟨gb1163, 2, none⟩ = some (.int .i64 0) := (blk_cell BK1163.out 2).trans rfl; have hcz13_3 : w12.cell? ⟨gb1163, 3, none⟩ = some (.int .i64 0) := (blk_cell BK1163.out 3).trans rfl; have hcz13_4 : w12.cell? ⟨gb1163, 4, none⟩ = some (.int .i64 0) := (blk_cell BK1163.out 4).trans rfl; have hcz13_5 : w12.cell? ⟨gb1163, 5, none⟩ = some (.int .i64 0) := (blk_cell BK1163.out 5).trans rfl; have hfz13_0 := blk_frozen BK1163.out 0; have hfz13_1 := blk_frozen BK1163.out 1; have hfz13_2 := blk_frozen BK1163.out 2; have hfz13_3 := blk_frozen BK1163.out 3; have hfz13_4 := blk_frozen BK1163.out 4; have hfz13_5 := blk_frozen BK1163.out 5))
       go_roundg k1
       case measure => have := HK1.out; omega
       case rel => exact ⟨(x5_1), (wrap64 (x10_1 + 1)), (by first | rfl | (simp; done) | (simp [*]; done)), (by first | rfl | (simp; done) | (simp [*]; done)), H', ⟨by have := HK1.out; omega⟩, ⟨bl_⟩⟩
     ·rw [if_neg c5] at H
      exact absurd H (by simp)
    ·rw [if_neg c4] at H
     exact absurd H (by simp)
   ·rw [if_neg c3] at H
    have c3b0 : decide (x10_1 < (l0.length : Int)) = false := decide_eq_false c3
    clear c3
    obtain rfl := Option.some.inj H
    go_wp2
    go_ret
    exact ⟨by first | rfl | (simp [errW_none, errW_some] <;> rfl) | (simp [*, errW_none, errW_some] <;> rfl) | exact False.elim (Bool.noConfusion ((decide_eq_true (of_eq_true (by assumption))).symm.trans (by assumption))), bl_⟩


/-! ### laws_sameInts: function 57 -/
def laws_sameInts.l0 : Nat → List Int → List Int → Int → Option (Bool)
 | 0, _, _, _ => none
 | k + 1, x0, x1, x5 => if x5 < (x0.length : Int) then (if 0 ≤ x5 then (if x5 < (x1.length : Int) then (if (rd x0 x5) = (rd x1 x5) then (laws_sameInts.l0 k x0 x1 (wrap64 (x5 + 1))) else (some false)) else (none)) else (none)) else (some true)
def laws_sameInts.f (k : Nat) (l0 : List Int) (l1 : List Int) : Option (Bool) := if (l0.length : Int) = (l1.length : Int) then (laws_sameInts.l0 k l0 l1 0) else (some false)
theorem laws_sameInts.mono_l : ∀ k, (∀ y0 y1 y2, LeO (laws_sameInts.l0 k y0 y1 y2) (laws_sameInts.l0 (k + 1) y0 y1 y2))
 | 0 => fun _ _ _ r h => by simp [laws_sameInts.l0] at h
 | k + 1 => by
  have ih0 := laws_sameInts.mono_l k
  ·intro y0 y1 y2
   unfold laws_sameInts.l0
   repeat' first
   | (with_reducible exact ih0 _ _ _)
   | (with_reducible exact LeO.refl _)
   | (with_reducible exact LeO.none _)
   | (with_reducible refine LeO.ite ?_ ?_)
   | (with_reducible refine LeO.bind ?_ (fun _ => ?_))
   | exact ih0 _ _ _
   | exact LeO.none _
   | refine LeO.ite ?_ ?_
   | refine LeO.bind ?_ (fun _ => ?_)
theorem laws_sameInts.mono : ∀ a0 a1 k, LeO (laws_sameInts.f k a0 a1) (laws_sameInts.f (k + 1) a0 a1) := by
 intro a0 a1 k
 have ih0 := laws_sameInts.mono_l k
 unfold laws_sameInts.f
 repeat' first
  | (with_reducible exact ih0 _ _ _)
  | (with_reducible exact LeO.refl _)
  | (with_reducible exact LeO.none _)
  | (with_reducible refine LeO.ite ?_ ?_)
  | (with_reducible refine LeO.bind ?_ (fun _ => ?_))
  | exact ih0 _ _ _
  | exact LeO.none _
  | refine LeO.ite ?_ ?_
  | refine LeO.bind ?_ (fun _ => ?_)
set_option maxHeartbeats 8000000 in
set_option maxRecDepth 100000 in
theorem laws_sameInts.calls (k : Nat) (A0 : Option Addr) (c0 : Nat) (l0 : List Int) (A1 : Option Addr) (c1 : Nat) (l1 : List Int) (r : Bool) (w : World) (hr0 : Kd.C (Kd.int .i64) w A0 l0.length l0) (hc0 : l0.length ≤ c0) (hr1 : Kd.C (Kd.int .i64) w A1 l1.length l1) (hc1 : l1.length ≤ c1) (h : laws_sameInts.f k l0 l1 = some r) :
 Calls Try.prog 57 #[.slice A0 l0.length c0, .slice A1 l1.length c1] w fun e w' => e = .returned (.bool r) ∧ Drawn0 w w' := by
 have HR0 := Aside0.mk hr0
 have HC0 := Aside0.mk hc0
 clear hr0 hc0
 have HR1 := Aside0.mk hr1
 have HC1 := Aside0.mk hc1
 clear hr1 hc1
 have H : (if (l0.length : Int) = (l1.length : Int) then (laws_sameInts.l0 k l0 l1 0) else (some false)) = some r := h
 clear h
 by_cases c3 : (l0.length : Int) = (l1.length : Int)
 ·rw [if_pos c3] at H
  have c3b0 : ((l0.length : Int) == (l1.length : Int)) = true := beq_iff_eq.mpr c3
  have c3b1 : ((l0.length : Int) != (l1.length : Int)) = false := bne_eq_false_iff_eq.mpr c3
  have c3b2 : (l0.length == l1.length) = true := by first | simpa using c3 | (simp at c3 ⊢; omega)
  clear c3
  have H' := Aside0.mk H
  clear H
  go_enter Try.func57, Try.ntmps57
  go_wp2
  repeat (go_quiet (fail); try go_wp2)
  go_loopg [5] k (fun kq v5 w' => ∃ (x5_1 : Int), v5 = .int .i64 x5_1 ∧ Aside0 (laws_sameInts.l0 kq l0 l1 x5_1 = some r) ∧ Aside0 (kq ≤ k) ∧ Drawn0 w w')
  case atStart => exact ⟨(0), (by first | rfl | (simp; done) | (simp [*]; done)), H', ⟨Nat.le_refl _⟩, by repeat (first | exact Drawn0.refl _ | apply Drawn0.step)⟩
  case round =>
   clear H'
   try clear c1
   try clear p2
   try clear c3
   try clear c3b0
   try clear c3b1
   try clear c3b2
   obtain ⟨x5_1, rfl, HA, HK1, ⟨m1, rfl⟩⟩ := hrel
   cases gk with
   | zero => exact absurd HA.out (by simp [laws_sameInts.l0])
   | succ k1 =>
    have H := HA.out
    clear HA
    simp only [laws_sameInts.l0] at H
    by_cases c4 : x5_1 < (l0.length : Int)
    ·rw [if_pos c4] at H
     have c4b0 : decide (x5_1 < (l0.length : Int)) = true := decide_eq_true c4
     clear c4
     by_cases c5 : 0 ≤ x5_1
     ·rw [if_pos c5] at H
      have c5b0 : decide (0 ≤ x5_1) = true := decide_eq_true c5
      clear c5
      by_cases c6 : x5_1 < (l1.length : Int)
      ·rw [if_pos c6] at H
       have c6b0 : decide (x5_1 < (l1.length : Int)) = true := decide_eq_true c6
       clear c6
       by_cases c7 : (rd l0 x5_1) = (rd l1 x5_1)
       ·rw [if_pos c7] at H
        have c7b0 : ((rd l0 x5_1) == (rd l1 x5_1)) = true := beq_iff_eq.mpr c7
        have c7b1 : ((rd l0 x5_1) != (rd l1 x5_1)) = false := bne_eq_false_iff_eq.mpr c7
        clear c7
        have H' := Aside0.mk H
        clear H
        have p1180 : 0 ≤ (x5_1 : Int) := of_decide_eq_true as_
        have q1180 : x5_1 < (l0.length : Int) := of_decide_eq_true as_
        obtain ⟨ad1180, e1180, hx1180_0⟩ := Kd.at_int HR0.out x5_1 p1180 q1180
        cases e1180
        replace p1180 := eq_true p1180
        replace q1180 := eq_true q1180
        have p1181 : 0 ≤ (x5_1 : Int) := of_decide_eq_true as_
        have q1181 : x5_1 < (l1.length : Int) := of_decide_eq_true as_
        obtain ⟨ad1181, e1181, hx1181_0⟩ := Kd.at_int HR1.out x5_1 p1181 q1181
        cases e1181
        replace p1181 := eq_true p1181
        replace q1181 := eq_true q1181
        go_wp2
        repeat (go_quiet (fail); try go_wp2)
        go_roundg k1
        case measure => have := HK1.out; omega
        case rel => exact ⟨(wrap64 (x5_1 + 1)), (by first | rfl | (simp; done) | (simp [*]; done)), H', ⟨by have := HK1.out; omega⟩, by repeat (first | exact Drawn0.refl _ | apply Drawn0.step)⟩
       ·rw [if_neg c7] at H
        have c7b0 : ((rd l0 x5_1) == (rd l1 x5_1)) = false := beq_eq_false_iff_ne.mpr c7
        have c7b1 : ((rd l0 x5_1) != (rd l1 x5_1)) = true := bne_iff_ne.mpr c7
        obtain rfl := Option.some.inj H
        have p1180 : 0 ≤ (x5_1 : Int) := of_decide_eq_true as_
        have q1180 : x5_1 < (l0.length : Int) := of_decide_eq_true as_
        obtain ⟨ad1180, e1180, hx1180_0⟩ := Kd.at_int HR0.out x5_1 p1180 q1180
        cases e1180
        replace p1180 := eq_true p1180
        replace q1180 := eq_true q1180
        have p1181 : 0 ≤ (x5_1 : Int) := of_decide_eq_true as_
        have q1181 : x5_1 < (l1.length : Int) := of_decide_eq_true as_
        obtain ⟨ad1181, e1181, hx1181_0⟩ := Kd.at_int HR1.out x5_1 p1181 q1181
        cases e1181
        replace p1181 := eq_true p1181
        replace q1181 := eq_true q1181
        go_wp2
        repeat (go_quiet (fail); try go_wp2)
        go_ret
        exact ⟨by first | rfl | (simp; done) | (simp [*]; done), by repeat (first | exact Drawn0.refl _ | apply Drawn0.step)⟩
      ·rw [if_neg c6] at H
       exact absurd H (by simp)
     ·rw [if_neg c5] at H
      exact absurd H (by simp)
    ·rw [if_neg c4] at H
     have c4b0 : decide (x5_1 < (l0.length : Int)) = false := decide_eq_false c4
     clear c4
     obtain rfl := Option.some.inj H
     go_wp2
     repeat (go_quiet (fail); try go_wp2)
     go_ret
     exact ⟨by first | rfl | (simp; done) | (simp [*]; done), by repeat (first | exact Drawn0.refl _ | apply Drawn0.step)⟩
 ·rw [if_neg c3] at H
  have c3b0 : ((l0.length : Int) == (l1.length : Int)) = false := beq_eq_false_iff_ne.mpr c3
  have c3b1 : ((l0.length : Int) != (l1.length : Int)) = true := bne_iff_ne.mpr c3
  have c3b2 : (l0.length == l1.length) = false := by first | simpa using c3 | (simp at c3 ⊢; omega)
  obtain rfl := Option.some.inj H
  go_enter Try.func57, Try.ntmps57
  go_wp2
  repeat (go_quiet (fail); try go_wp2)
  go_ret
  exact ⟨by first | rfl | (simp; done) | (simp [*]; done), by repeat (first | exact Drawn0.refl _ | apply Drawn0.step)⟩

end Go.Proofs.Ytmjlhikflhbdaaa.PA

/- Contracts of functions of the program and of the reference, and plain lemmas on what they compute: a part of the proof of the law FnCounts. No condition. -/
import Derived.Test.YtmjlhikflhbdaaaGabbbex0
import Derived.Test.YtmjlhikflhbdaaaGe172dx0
import Derived.Test.YtmjlhikflhbdaaaGc3972x0
import Derived.Test.YtmjlhikflhbdaaaG06b76x0
import Derived.Test.YtmjlhikflhbdaaaGe4ebax0
import Derived.Test.YtmjlhikflhbdaaaG330b6x0
import Derived.Test.YtmjlhikflhbdaaaV0
import Derived.Test.YtmjlhikflhbdaaaRows
import Derived.WalkKit
import Derived.ProofKit
import Derived.OpenShut
import Derived.ShutString
import Derived.ChangeOld
import Derived.Below
import Derived.SizedLaws
import Derived.Test.YtmjlhikflhbdaaaShortV
namespace Go.Proofs.Ytmjlhikflhbdaaa.PA
open Go.RowKit Go.Proofs.Ytmjlhikflhbdaaa.Short Go.Proofs.YtmjlhikflhbdaaaW.PrintWords Go.Proofs.YtmjlhikflhbdaaaW.PrintLast Go.Proofs.YtmjlhikflhbdaaaW.PrintMore
attribute [local go_sem] max2_int min2_int max_two min_two max_three min_three max_four min_four   -- for this text's walks alone
set_option linter.unusedVariables false
set_option linter.unusedSimpArgs false

/-! ### spec_DrawEntries: function 54 -/
def spec_DrawEntries.f (k : Nat) (l0 : List Int) : Option ((List (S131))) := (spec_l01New.f k l0).bind fun bt1153 => ((spec_l19Entries.f k bt1153.1 bt1153.2.1 bt1153.2.2).bind fun bt1157 => (some bt1157.1))
theorem spec_DrawEntries.mono : ∀ a0 k, LeO (spec_DrawEntries.f k a0) (spec_DrawEntries.f (k + 1) a0) := by
 intro a0 k
 unfold spec_DrawEntries.f
 repeat' first
  | (with_reducible exact spec_l01New.mono _ _)
  | (with_reducible exact spec_l19Entries.mono _ _ _ _)
  | (with_reducible exact LeO.refl _)
  | (with_reducible exact LeO.none _)
  | (with_reducible refine LeO.ite ?_ ?_)
  | (with_reducible refine LeO.bind ?_ (fun _ => ?_))
  | exact spec_l01New.mono _ _
  | exact spec_l19Entries.mono _ _ _ _
  | exact LeO.none _
  | refine LeO.ite ?_ ?_
  | refine LeO.bind ?_ (fun _ => ?_)
set_option maxHeartbeats 8000000 in
set_option maxRecDepth 100000 in
theorem spec_DrawEntries.calls (k : Nat) (A0 : Option Addr) (c0 : Nat) (l0 : List Int) (r : List (S131)) (w : World) (hr0 : Kd.C (Kd.int .u8) w A0 l0.length l0) (hc0 : l0.length ≤ c0) (h : spec_DrawEntries.f k l0 = some r) :
 Calls Try.prog 54 #[.slice A0 l0.length c0] w fun e w' => ∃ v0_ : Value, e = .returned (v0_) ∧ Kd.R k131 131 w' w.heap.size (fun _ => True) v0_ r ∧ Below w.heap.size w w' := by
 have HR0 := Aside0.mk hr0
 have HC0 := Aside0.mk hc0
 clear hr0 hc0
 have HB := Aside0.mk (Below.refl w.heap.size w)
 have H : ((spec_l01New.f k l0).bind fun bt1153 => ((spec_l19Entries.f k bt1153.1 bt1153.2.1 bt1153.2.2).bind fun bt1157 => (some bt1157.1))) = some r := h
 clear h
 replace H := Option.bind_eq_some_iff.mp H
 obtain ⟨⟨t1153, t1154, t1155⟩, A20, H⟩ := H
 try dsimp only at H
 have A2 := Aside0.mk A20
 clear A20
 replace H := Option.bind_eq_some_iff.mp H
 obtain ⟨⟨t1157, t1160, t1161⟩, A30, H⟩ := H
 try dsimp only at H
 have A3 := Aside0.mk A30
 clear A30
 obtain rfl := Option.some.inj H
 go_enter Try.func54, Try.ntmps54
 go_wp2_with (first | ((with_reducible refine gate_callee (f := 100) rfl ?_); refine goesL_ (some 4) rfl rfl Try.func100 (by kernel_rfl) rfl #[.slice A0 l0.length c0] rfl lm_ ?_; (with_reducible refine (spec_l01New.calls k _ _ l0 t1153 t1154 t1155 w _ ?side1 ?side2 ?side3 A2.out).mono ?_); (case side1 => repeat (first | (with_reducible first | exact HB.out | apply below_alloc | apply pw_below_drewN | apply below_drew1) | exact HB.out)); (case side2 => exact HR0.out); (case side3 => exact HC0.out); rintro e w4 ⟨g1156, rfl, hi, hb, hb2⟩; refine ⟨_, rfl, ?_⟩; have n0_ := Aside0.mk (hb); have n1_ := Aside0.mk (hi); clear HB; have HB := n0_; have HI1156 := n1_; clear n0_ n1_; (try clear hb); (try clear hb2); (try clear hk); (try clear hi)) | ((with_reducible refine gate_callee (f := 131) rfl ?_); refine goesL_ (some 5) rfl rfl Try.func131 (by kernel_rfl) rfl #[.pointer (some ⟨g1156, 0, none⟩)] rfl lm_ ?_; (with_reducible refine (spec_l19Entries.calls k g1156 t1153 t1154 t1155 t1157 t1160 t1161 w _ ?side1 ?side2 A3.out).mono ?_); (case side1 => exact is1_); (case side2 => exact bi1_); rintro e w5 ⟨v1158, rfl, ho0, hi, hb, hk⟩; refine ⟨_, rfl, ?_⟩; have n0_ := Aside0.mk (Kd.R_lower ho0 (below_size bi1_)); have n1_ := Aside0.mk (hb); have n2_ := Aside0.mk (hi); clear HB; clear HI1156; have HO1159 := n0_; have HB := n1_; have HI1156 := n2_; clear n0_ n1_ n2_; (try clear hb); (try clear hb2); (try clear hk); (try clear hi); (try clear ho0)))
 go_ret
 exact ⟨_, by first | rfl | (simp [errW_none, errW_some] <;> rfl) | (simp [*, errW_none, errW_some] <;> rfl) | exact False.elim (Bool.noConfusion ((decide_eq_true (of_eq_true (by assumption))).symm.trans (by assumption))), ra_ HO1159.out, bi1_⟩


/-! ### spec_DrawPlaces: function 56 -/
def spec_DrawPlaces.l0 : Nat → List Int → Int → List Int → Int → Int → Option (List Int)
 | 0, _, _, _, _, _ => none
 | k + 1, x4, x5, x1168000, x1168001, x1168002 => if x5 < 12 then ((spec_l01Below.f x1168000 x1168001 x1168002 10000).bind fun bt1174 => (if x4.length < 17592186044416 then (spec_DrawPlaces.l0 k (x4 ++ [bt1174.1]) (wrap64 (x5 + 1)) x1168000 bt1174.2.1 bt1174.2.2) else (none))) else (some x4)
def spec_DrawPlaces.f (k : Nat) (l0 : List Int) : Option (List Int) := (spec_l01New.f k l0).bind fun bt1164 => ((spec_l01Byte.f bt1164.1 bt1164.2.1 bt1164.2.2).bind fun bt1168 => (spec_DrawPlaces.l0 k (([] : List Int)) 0 bt1164.1 bt1168.2.1 bt1168.2.2))
theorem spec_DrawPlaces.mono_l : ∀ k, (∀ y0 y1 y2 y3 y4, LeO (spec_DrawPlaces.l0 k y0 y1 y2 y3 y4) (spec_DrawPlaces.l0 (k + 1) y0 y1 y2 y3 y4))
 | 0 => fun _ _ _ _ _ r h => by simp [spec_DrawPlaces.l0] at h
 | k + 1 => by
  have ih0 := spec_DrawPlaces.mono_l k
  ·intro y0 y1 y2 y3 y4
   unfold spec_DrawPlaces.l0
   repeat' first
   | (with_reducible exact ih0 _ _ _ _ _)
   | (with_reducible exact spec_l01New.mono _ _)
   | (with_reducible exact LeO.refl _)
   | (with_reducible exact LeO.none _)
   | (with_reducible refine LeO.ite ?_ ?_)
   | (with_reducible refine LeO.bind ?_ (fun _ => ?_))
   | exact ih0 _ _ _ _ _
   | exact spec_l01New.mono _ _
   | exact LeO.none _
   | refine LeO.ite ?_ ?_
   | refine LeO.bind ?_ (fun _ => ?_)
theorem spec_DrawPlaces.mono : ∀ a0 k, LeO (spec_DrawPlaces.f k a0) (spec_DrawPlaces.f (k + 1) a0) := by
 intro a0 k
 have ih0 := spec_DrawPlaces.mono_l k
 unfold spec_DrawPlaces.f
 repeat' first
  | (with_reducible exact ih0 _ _ _ _ _)
  | (with_reducible exact spec_l01New.mono _ _)
  | (with_reducible exact LeO.refl _)
  | (with_reducible exact LeO.none _)
  | (with_reducible refine LeO.ite ?_ ?_)
  | (with_reducible refine LeO.bind ?_ (fun _ => ?_))
  | exact ih0 _ _ _ _ _
  | exact spec_l01New.mono _ _
  | exact LeO.none _
  | refine LeO.ite ?_ ?_
  | refine LeO.bind ?_ (fun _ => ?_)
set_option maxHeartbeats 8000000 in
set_option maxRecDepth 100000 in
theorem spec_DrawPlaces.calls (k : Nat) (A0 : Option Addr) (c0 : Nat) (l0 : List Int) (r : List Int) (w : World) (hr0 : Kd.C (Kd.int .u8) w A0 l0.length l0) (hc0 : l0.length ≤ c0) (h : spec_DrawPlaces.f k l0 = some r) :
 Calls Try.prog 56 #[.slice A0 l0.length c0] w fun e w' => ∃ v0_ : Value, e = .returned (v0_) ∧ Kd.R (Kd.int .i64) 3 w' w.heap.size (fun _ => True) v0_ r ∧ Below w.heap.size w w' := by
 have HR0 := Aside0.mk hr0
 have HC0 := Aside0.mk hc0
 clear hr0 hc0
 have HB := Aside0.mk (Below.refl w.heap.size w)
 have H : ((spec_l01New.f k l0).bind fun bt1164 => ((spec_l01Byte.f bt1164.1 bt1164.2.1 bt1164.2.2).bind fun bt1168 => (spec_DrawPlaces.l0 k (([] : List Int)) 0 bt1164.1 bt1168.2.1 bt1168.2.2))) = some r := h
 clear h
 replace H := Option.bind_eq_some_iff.mp H
 obtain ⟨⟨t1164, t1165, t1166⟩, A20, H⟩ := H
 try dsimp only at H
 have A2 := Aside0.mk A20
 clear A20
 replace H := Option.bind_eq_some_iff.mp H
 obtain ⟨⟨t1168, t1169, t1170⟩, A30, H⟩ := H
 try dsimp only at H
 have A3 := Aside0.mk A30
 clear A30
 obtain ⟨y1171, hy1171⟩ : ∃ y_ : List Int, y_ = (([] : List Int)) := ⟨_, rfl⟩
 replace H : (spec_DrawPlaces.l0 k y1171 0 t1164 t1169 t1170) = some r := by first | (rw [hy1171]; with_reducible exact H) | (have H2_ := (Option.bind_some _ _).symm.trans H; rw [hy1171]; with_reducible exact H2_) | (have H2_ := (Option.bind_some _ _).symm.trans H; with_reducible exact H2_) | with_reducible exact H | (rw [hy1171]; exact H) | exact H
 have Ny1171 := Aside0.mk hy1171
 clear hy1171
 have H' := Aside0.mk H
 clear H
 go_enter Try.func56, Try.ntmps56
 go_wp2_with (first | ((with_reducible refine gate_callee (f := 100) rfl ?_); refine goesL_ (some 7) rfl rfl Try.func100 (by kernel_rfl) rfl #[.slice A0 l0.length c0] rfl lm_ ?_; (with_reducible refine (spec_l01New.calls k _ _ l0 t1164 t1165 t1166 w _ ?side1 ?side2 ?side3 A2.out).mono ?_); (case side1 => repeat (first | (with_reducible first | exact HB.out | apply below_alloc | apply pw_below_drewN | apply below_drew1) | exact HB.out)); (case side2 => exact HR0.out); (case side3 => exact HC0.out); rintro e w4 ⟨g1167, rfl, hi, hb, hb2⟩; refine ⟨_, rfl, ?_⟩; have n0_ := Aside0.mk (hb); have n1_ := Aside0.mk (hi); clear HB; have HB := n0_; have HI1167 := n1_; clear n0_ n1_; (try clear hb); (try clear hb2); (try clear hk); (try clear hi)) | ((with_reducible refine gate_callee (f := 132) rfl ?_); refine goesL_ (some 9) rfl rfl Try.func132 (by kernel_rfl) rfl #[.pointer (some ⟨g1167, 0, none⟩)] rfl lm_ ?_; (with_reducible refine (spec_l01Byte.calls g1167 t1164 t1165 t1166 t1168 t1169 t1170 w _ ?side1 ?side2 A3.out).mono ?_); (case side1 => exact is2_); (case side2 => exact bi2_); rintro e w5 ⟨rfl, hi, hb, hk⟩; refine ⟨_, rfl, ?_⟩; have n0_ := Aside0.mk (hb); have n1_ := Aside0.mk (hi); clear HB; clear HI1167; have HB := n0_; have HI1167 := n1_; clear n0_ n1_; (try clear hb); (try clear hb2); (try clear hk); (try clear hi)) | ((with_reducible refine gate_dst (N := 10) rfl ?_); refine Kd.R_lit (Kd.int .i64) _ 3 ?hg (N := 10) ?hd (xs := ([] : List Int)) (inner := []) (ok := fun _ => True) (okp := fun _ => True) ?hr ?hp (fun _ hk => hk) trivial (Below.refl _ _) (Nat.le_refl _) (by simp) ?_; (case hd => rfl); (case hg => rfl); (case hr => first | (go_simp; done) | (go_simp; rfl)); (case hp => exact (Reps.none _ _)); intro v1172 w6 ho7 hb hg_ hnew_; clear hg_ hnew_; (first | rw [← Ny1171.out] at ho7 | (simp only [Int.reduceToNat] at ho7; rw [← Ny1171.out] at ho7)); have n0_ := Aside0.mk (Kd.R_lower ho7 (below_size bi2_)); have n1_ := Aside0.mk (IsS163.below is2_ hb); have n2_ := Aside0.mk (below_step bi2_ hb); clear HI1167; clear HB; have HO1173 := n0_; have HI1167 := n1_; have HB := n2_; clear n0_ n1_ n2_; clear hb ho7))
 go_loopg [4, 5] k (fun kq v4 v5 w' => ∃ (x4_1 : List Int) (x5_1 : Int) (x1168001_1 : Int) (x1168002_1 : Int), v5 = .int .i64 x5_1 ∧ Aside0 (spec_DrawPlaces.l0 kq x4_1 x5_1 t1164 x1168001_1 x1168002_1 = some r) ∧ Aside0 (kq ≤ k) ∧ Aside0 (Kd.R (Kd.int .i64) 3 w' w.heap.size (fun _ => True) v4 x4_1) ∧ Aside0 (IsS163 w w' g1167 t1164 x1168001_1 x1168002_1) ∧ Aside0 (Below w.heap.size w w'))
 case atStart => exact ⟨(y1171), (0), (t1169), (t1170), (by first | rfl | (simp; done) | (simp [*]; done)), H', ⟨Nat.le_refl _⟩, ⟨ra_ HO1173.out⟩, ⟨is2_⟩, ⟨bi2_⟩⟩
 case round =>
  clear H'
  try clear c1
  try clear p2
  try clear c5
  obtain ⟨x4_1, x5_1, x1168001_1, x1168002_1, rfl, HA, HK1, HO_4, HI1167, HB⟩ := hrel
  cases gk with
  | zero => exact absurd HA.out (by simp [spec_DrawPlaces.l0])
  | succ k1 =>
   have H := HA.out
   clear HA
   simp only [spec_DrawPlaces.l0] at H
   by_cases c8 : x5_1 < 12
   ·rw [if_pos c8] at H
    have c8b0 : decide (x5_1 < 12) = true := decide_eq_true c8
    clear c8
    replace H := Option.bind_eq_some_iff.mp H
    obtain ⟨⟨t1174, t1175, t1176⟩, A90, H⟩ := H
    try dsimp only at H
    have A9 := Aside0.mk A90
    clear A90
    by_cases c10 : x4_1.length < 17592186044416
    ·rw [if_pos c10] at H
     have LMc10 := Aside0.mk c10
     clear c10
     obtain ⟨y1177, hy1177⟩ : ∃ y_ : List Int, y_ = (x4_1 ++ [t1174]) := ⟨_, rfl⟩
     replace H : (spec_DrawPlaces.l0 k1 y1177 (wrap64 (x5_1 + 1)) t1164 t1175 t1176) = some r := by first | (rw [hy1177]; with_reducible exact H) | (have H2_ := (Option.bind_some _ _).symm.trans H; rw [hy1177]; with_reducible exact H2_) | (have H2_ := (Option.bind_some _ _).symm.trans H; with_reducible exact H2_) | with_reducible exact H | (rw [hy1177]; exact H) | exact H
     have Ny1177 := Aside0.mk hy1177
     clear hy1177
     have H' := Aside0.mk H
     clear H
     go_wp2_with (first | ((with_reducible refine gate_callee (f := 133) rfl ?_); refine goesL_ (some 17) rfl rfl Try.func133 (by kernel_rfl) rfl #[.pointer (some ⟨g1167, 0, none⟩), .int .i64 10000] rfl lm_ ?_; (with_reducible refine (spec_l01Below.calls g1167 t1164 x1168001_1 x1168002_1 10000 t1174 t1175 t1176 w _ ?side1 ?side2 A9.out).mono ?_); (case side1 => exact is2_); (case side2 => exact bi2_); rintro e w11 ⟨rfl, hi, hb, hk⟩; refine ⟨_, rfl, ?_⟩; have n0_ := Aside0.mk (Kd.R_mono (Kd.R_keep (IsS163.apart (show IsS163 w _ g1167 t1164 x1168001_1 x1168002_1 from is2_) (ra_ HO_4.out) (by decide)) hk (fun _ h => h.2)) (fun _ h => h.1)); have n1_ := Aside0.mk (hb); have n2_ := Aside0.mk (hi); clear HO_4; clear HB; clear HI1167; have HO_4 := n0_; have HB := n1_; have HI1167 := n2_; clear n0_ n1_ n2_; (try clear hb); (try clear hb2); (try clear hk); (try clear hi)) | ((with_reducible refine gate_builtin (b := .append) (xs := #[.tmp 15, .tmp 18]) rfl ?_); at_builtin; refine Kd.R_append (Kd.int .i64) (w0 := w) w.heap.size rfl (.tmp 15) (.tmp 18) 54 3 (.int .i64 0) 8 rfl Try.underlying54 info3 rfl (by decide) (by omega) u4 x4_1 t1174 [.int .i64 t1174] (fun _ => True) (fun _ => False) rfl rfl ?aP (fun _ hk => hk.elim) ?aF ?aO ?aB ?aS ?aL ?_; (case aP => exact rfl); (case aB => exact bi2_); (case aF => exact (fun _ _ => trivial)); (case aO => exact (ra_ HO_4.out)); (case aS => exact (below_size bi2_)); (case aL => have := LMc10.out; omega); intro v1178 w12 ho hb hg hat; rw [← Ny1177.out] at ho; have n0_ := Aside0.mk (IsS163.grown (show IsS163 w _ g1167 t1164 t1175 t1176 from is2_) hg (IsS163.own_ne HI1167.out HO_4.out (by decide))); have n1_ := Aside0.mk (hb); have n2_ := Aside0.mk (ho); clear HI1167; clear HB; clear HO_4; have HI1167 := n0_; have HB := n1_; have HO1179 := n2_; clear n0_ n1_ n2_; clear ho hb hg hat))
     go_roundg k1
     case measure => have := HK1.out; omega
     case rel => exact ⟨(y1177), (wrap64 (x5_1 + 1)), (t1175), (t1176), (by first | rfl | (simp; done) | (simp [*]; done)), H', ⟨by have := HK1.out; omega⟩, ⟨ra_ HO1179.out⟩, ⟨is2_⟩, ⟨bi2_⟩⟩
    ·rw [if_neg c10] at H
     exact absurd H (by simp)
   ·rw [if_neg c8] at H
    have c8b0 : decide (x5_1 < 12) = false := decide_eq_false c8
    clear c8
    obtain rfl := Option.some.inj H
    go_wp2
    go_ret
    exact ⟨_, by first | rfl | (simp [errW_none, errW_some] <;> rfl) | (simp [*, errW_none, errW_some] <;> rfl) | exact False.elim (Bool.noConfusion ((decide_eq_true (of_eq_true (by assumption))).symm.trans (by assumption))), ra_ HO_4.out, bi2_⟩


/-! ### laws_FnCounts: function 10 -/
mutual
def laws_FnCounts.l0 : Nat → List Int → List (S131) → List (S65) → Int → Int → Int → Bool → Int → Option (Bool)
 | 0, _, _, _, _, _, _, _, _ => none
 | k + 1, x0, x3, x4, x5, x6, x7, x8, x9 => if x9 < (x4.length : Int) then (if 0 ≤ x9 then (if ((rd_T65 x4 x9).f1) > x7 then (if x9 > 0 then (if 0 ≤ (wrap64 (x9 - 1)) then (if (wrap64 (x9 - 1)) < (x4.length : Int) then (if ((rd_T65 x4 (wrap64 (x9 - 1))).f0) ≥ ((rd_T65 x4 x9).f0) then (some false) else (laws_FnCounts.l0 k x0 x3 x4 x5 (wrap64 (x6 + ((rd_T65 x4 x9).f1))) ((rd_T65 x4 x9).f1) x8 (wrap64 (x9 + 1)))) else (none)) else (none)) else (laws_FnCounts.l0 k x0 x3 x4 x5 (wrap64 (x6 + ((rd_T65 x4 x9).f1))) ((rd_T65 x4 x9).f1) x8 (wrap64 (x9 + 1)))) else (if x9 > 0 then (if 0 ≤ (wrap64 (x9 - 1)) then (if (wrap64 (x9 - 1)) < (x4.length : Int) then (if ((rd_T65 x4 (wrap64 (x9 - 1))).f0) ≥ ((rd_T65 x4 x9).f0) then (some false) else (laws_FnCounts.l0 k x0 x3 x4 x5 (wrap64 (x6 + ((rd_T65 x4 x9).f1))) x7 x8 (wrap64 (x9 + 1)))) else (none)) else (none)) else (laws_FnCounts.l0 k x0 x3 x4 x5 (wrap64 (x6 + ((rd_T65 x4 x9).f1))) x7 x8 (wrap64 (x9 + 1))))) else (none)) else (laws_FnCounts.l1 k x0 x3 x4 x5 x6 x7 x8 0)
def laws_FnCounts.l1 : Nat → List Int → List (S131) → List (S65) → Int → Int → Int → Bool → Int → Option (Bool)
 | 0, _, _, _, _, _, _, _, _ => none
 | k + 1, x0, x3, x4, x5, x6, x7, x8, x10 => if x10 < (x4.length : Int) then (if x8 = true then (laws_FnCounts.l1 k x0 x3 x4 x5 x6 x7 true (wrap64 (x10 + 1))) else (if 0 ≤ x10 then (if ((rd_T65 x4 x10).f0) = x5 then (laws_FnCounts.l1 k x0 x3 x4 x5 x6 x7 (((rd_T65 x4 x10).f1) == x7) (wrap64 (x10 + 1))) else (laws_FnCounts.l1 k x0 x3 x4 x5 x6 x7 false (wrap64 (x10 + 1)))) else (none))) else ((impl_PidsIn.f k x3).bind fun t1199 => (laws_FnCounts.l2 k x0 x3 x6 x8 t1199 0 0))
def laws_FnCounts.l2 : Nat → List Int → List (S131) → Int → Bool → List Int → Int → Int → Option (Bool)
 | 0, _, _, _, _, _, _, _ => none
 | k + 1, x0, x3, x6, x8, x11, x12, x13 => if x13 < (x11.length : Int) then (if 0 ≤ x13 then ((impl_ToldBy.f k x3 (rd x11 x13)).bind fun t1203 => (laws_FnCounts.l2 k x0 x3 x6 x8 x11 (wrap64 (x12 + t1203)) (wrap64 (x13 + 1)))) else (none)) else ((some (([] : List (S131)) : List (S131))).bind fun y1204 => (if y1204.length + x3.length < 2932031007402 then ((some (y1204 ++ x3 : List (S131))).bind fun y1207 => (if y1207.length + x3.length < 2932031007402 then ((some (y1207 ++ x3 : List (S131))).bind fun y1210 => ((spec_DrawPlaces.f k x0).bind fun t1213 => (if 0 < (t1213.length : Int) then (if x6 = x12 then (if x8 = true then ((impl_ToldBy.f k y1210 (Int.tmod (rd t1213 0) 3)).bind fun t1217 => ((impl_ToldBy.f k x3 (Int.tmod (rd t1213 0) 3)).bind fun t1218 => (if t1217 = (wrap64 (2 * t1218)) then ((impl_PidsIn.f k y1210).bind fun t1219 => ((laws_sameInts.f k t1219 x11).bind fun t1222 => (if t1222 = true then (some (((x3.length : Int) == 0) == ((x11.length : Int) == 0))) else (some false)))) else (some false)))) else (some false)) else (some false)) else (none)))) else (none))) else (none)))
end
def laws_FnCounts.f (k : Nat) (l0 : List Int) : Option (Bool) := (laws_big.f l0).bind fun t1182 => (if t1182 = true then (some true) else ((spec_DrawEntries.f k l0).bind fun t1183 => ((impl_TalliesOf.f k t1183).bind fun t1186 => ((impl_MostTold.f k t1183).bind fun t1189 => (laws_FnCounts.l0 k l0 t1183 t1186 t1189 0 0 (t1189 == (-1)) 0)))))
theorem laws_FnCounts.mono_l : ∀ k, (∀ y0 y1 y2 y3 y4 y5 y6 y7, LeO (laws_FnCounts.l0 k y0 y1 y2 y3 y4 y5 y6 y7) (laws_FnCounts.l0 (k + 1) y0 y1 y2 y3 y4 y5 y6 y7)) ∧ (∀ y0 y1 y2 y3 y4 y5 y6 y7, LeO (laws_FnCounts.l1 k y0 y1 y2 y3 y4 y5 y6 y7) (laws_FnCounts.l1 (k + 1) y0 y1 y2 y3 y4 y5 y6 y7)) ∧ (∀ y0 y1 y2 y3 y4 y5 y6, LeO (laws_FnCounts.l2 k y0 y1 y2 y3 y4 y5 y6) (laws_FnCounts.l2 (k + 1) y0 y1 y2 y3 y4 y5 y6))
 | 0 => ⟨fun _ _ _ _ _ _ _ _ r h => by simp [laws_FnCounts.l0] at h, fun _ _ _ _ _ _ _ _ r h => by simp [laws_FnCounts.l1] at h, fun _ _ _ _ _ _ _ r h => by simp [laws_FnCounts.l2] at h⟩
 | k + 1 => by
  obtain ⟨ih0, ih1, ih2⟩ := laws_FnCounts.mono_l k
  refine ⟨?_, ?_, ?_⟩
  ·intro y0 y1 y2 y3 y4 y5 y6 y7
   unfold laws_FnCounts.l0
   repeat' first
   | (with_reducible exact ih0 _ _ _ _ _ _ _ _)
   | (with_reducible exact ih1 _ _ _ _ _ _ _ _)
   | (with_reducible exact ih2 _ _ _ _ _ _ _)
   | (with_reducible exact impl_MostTold.mono _ _)
   | (with_reducible exact impl_PidsIn.mono _ _)
   | (with_reducible exact impl_TalliesOf.mono _ _)
   | (with_reducible exact impl_ToldBy.mono _ _ _)
   | (with_reducible exact laws_sameInts.mono _ _ _)
   | (with_reducible exact spec_DrawEntries.mono _ _)
   | (with_reducible exact spec_DrawPlaces.mono _ _)
   | (with_reducible exact LeO.refl _)
   | (with_reducible exact LeO.none _)
   | (with_reducible refine LeO.ite ?_ ?_)
   | (with_reducible refine LeO.bind ?_ (fun _ => ?_))
   | exact ih0 _ _ _ _ _ _ _ _
   | exact ih1 _ _ _ _ _ _ _ _
   | exact ih2 _ _ _ _ _ _ _
   | exact impl_MostTold.mono _ _
   | exact impl_PidsIn.mono _ _
   | exact impl_TalliesOf.mono _ _
   | exact impl_ToldBy.mono _ _ _
   | exact laws_sameInts.mono _ _ _
   | exact spec_DrawEntries.mono _ _
   | exact spec_DrawPlaces.mono _ _
   | exact LeO.none _
   | refine LeO.ite ?_ ?_
   | refine LeO.bind ?_ (fun _ => ?_)
  ·intro y0 y1 y2 y3 y4 y5 y6 y7
   unfold laws_FnCounts.l1
   repeat' first
   | (with_reducible exact ih0 _ _ _ _ _ _ _ _)
   | (with_reducible exact ih1 _ _ _ _ _ _ _ _)
   | (with_reducible exact ih2 _ _ _ _ _ _ _)
   | (with_reducible exact impl_MostTold.mono _ _)
   | (with_reducible exact impl_PidsIn.mono _ _)
   | (with_reducible exact impl_TalliesOf.mono _ _)
   | (with_reducible exact impl_ToldBy.mono _ _ _)
   | (with_reducible exact laws_sameInts.mono _ _ _)
   | (with_reducible exact spec_DrawEntries.mono _ _)
   | (with_reducible exact spec_DrawPlaces.mono _ _)
   | (with_reducible exact LeO.refl _)
   | (with_reducible exact LeO.none _)
   | (with_reducible refine LeO.ite ?_ ?_)
   | (with_reducible refine LeO.bind ?_ (fun _ => ?_))
   | exact ih0 _ _ _ _ _ _ _ _
   | exact ih1 _ _ _ _ _ _ _ _
   | exact ih2 _ _ _ _ _ _ _
   | exact impl_MostTold.mono _ _
   | exact impl_PidsIn.mono _ _
   | exact impl_TalliesOf.mono _ _
   | exact impl_ToldBy.mono _ _ _
   | exact laws_sameInts.mono _ _ _
   | exact spec_DrawEntries.mono _ _
   | exact spec_DrawPlaces.mono _ _
   | exact LeO.none _
   | refine LeO.ite ?_ ?_
   | refine LeO.bind ?_ (fun _ => ?_)
  ·intro y0 y1 y2 y3 y4 y5 y6
   unfold laws_FnCounts.l2
   repeat' first
   | (with_reducible exact ih0 _ _ _ _ _ _ _ _)
   | (with_reducible exact ih1 _ _ _ _ _ _ _ _)
   | (with_reducible exact ih2 _ _ _ _ _ _ _)
   | (with_reducible exact impl_MostTold.mono _ _)
   | (with_reducible exact impl_PidsIn.mono _ _)
   | (with_reducible exact impl_TalliesOf.mono _ _)
   | (with_reducible exact impl_ToldBy.mono _ _ _)
   | (with_reducible exact laws_sameInts.mono _ _ _)
   | (with_reducible exact spec_DrawEntries.mono _ _)
   | (with_reducible exact spec_DrawPlaces.mono _ _)
   | (with_reducible exact LeO.refl _)
   | (with_reducible exact LeO.none _)
   | (with_reducible refine LeO.ite ?_ ?_)
   | (with_reducible refine LeO.bind ?_ (fun _ => ?_))
   | exact ih0 _ _ _ _ _ _ _ _
   | exact ih1 _ _ _ _ _ _ _ _
   | exact ih2 _ _ _ _ _ _ _
   | exact impl_MostTold.mono _ _
   | exact impl_PidsIn.mono _ _
   | exact impl_TalliesOf.mono _ _
   | exact impl_ToldBy.mono _ _ _
   | exact laws_sameInts.mono _ _ _
   | exact spec_DrawEntries.mono _ _
   | exact spec_DrawPlaces.mono _ _
   | exact LeO.none _
   | refine LeO.ite ?_ ?_
   | refine LeO.bind ?_ (fun _ => ?_)
theorem laws_FnCounts.mono : ∀ a0 k, LeO (laws_FnCounts.f k a0) (laws_FnCounts.f (k + 1) a0) := by
 intro a0 k
 obtain ⟨ih0, ih1, ih2⟩ := laws_FnCounts.mono_l k
 unfold laws_FnCounts.f
 repeat' first
  | (with_reducible exact ih0 _ _ _ _ _ _ _ _)
  | (with_reducible exact ih1 _ _ _ _ _ _ _ _)
  | (with_reducible exact ih2 _ _ _ _ _ _ _)
  | (with_reducible exact impl_MostTold.mono _ _)
  | (with_reducible exact impl_PidsIn.mono _ _)
  | (with_reducible exact impl_TalliesOf.mono _ _)
  | (with_reducible exact impl_ToldBy.mono _ _ _)
  | (with_reducible exact laws_sameInts.mono _ _ _)
  | (with_reducible exact spec_DrawEntries.mono _ _)
  | (with_reducible exact spec_DrawPlaces.mono _ _)
  | (with_reducible exact LeO.refl _)
  | (with_reducible exact LeO.none _)
  | (with_reducible refine LeO.ite ?_ ?_)
  | (with_reducible refine LeO.bind ?_ (fun _ => ?_))
  | exact ih0 _ _ _ _ _ _ _ _
  | exact ih1 _ _ _ _ _ _ _ _
  | exact ih2 _ _ _ _ _ _ _
  | exact impl_MostTold.mono _ _
  | exact impl_PidsIn.mono _ _
  | exact impl_TalliesOf.mono _ _
  | exact impl_ToldBy.mono _ _ _
  | exact laws_sameInts.mono _ _ _
  | exact spec_DrawEntries.mono _ _
  | exact spec_DrawPlaces.mono _ _
  | exact LeO.none _
  | refine LeO.ite ?_ ?_
  | refine LeO.bind ?_ (fun _ => ?_)
set_option maxHeartbeats 8000000 in
set_option maxRecDepth 100000 in
theorem laws_FnCounts.calls (k : Nat) (A0 : Option Addr) (c0 : Nat) (l0 : List Int) (r : Bool) (w : World) (hr0 : Kd.C (Kd.int .u8) w A0 l0.length l0) (hc0 : l0.length ≤ c0) (hr1 : r = true) (h : laws_FnCounts.f k l0 = some r) :
 Calls Try.prog 10 #[.slice A0 l0.length c0] w fun e w' => e = .returned (.bool r) ∧ Below w.heap.size w w' := by
 have HR0 := Aside0.mk hr0
 have HC0 := Aside0.mk hc0
 clear hr0 hc0
 have HR1 := Aside0.mk hr1
 clear hr1
 have HB := Aside0.mk (Below.refl w.heap.size w)
 have H : ((laws_big.f l0).bind fun t1182 => (if t1182 = true then (some true) else ((spec_DrawEntries.f k l0).bind fun t1183 => ((impl_TalliesOf.f k t1183).bind fun t1186 => ((impl_MostTold.f k t1183).bind fun t1189 => (laws_FnCounts.l0 k l0 t1183 t1186 t1189 0 0 (t1189 == (-1)) 0)))))) = some r := h
 clear h
 replace H := Option.bind_eq_some_iff.mp H
 obtain ⟨t1182, A20, H⟩ := H
 try dsimp only at H
 have A2 := Aside0.mk A20
 clear A20
 by_cases c3 : t1182 = true
 ·subst c3
  rw [if_pos rfl] at H
  obtain rfl := Option.some.inj H
  go_enter Try.func10, Try.ntmps10
  go_wp2_with (first | (go_at_call 20; (with_reducible refine (laws_big.calls _ _ l0 true _ ?side1 ?side2 A2.out).mono ?_); (case side1 => repeat (first | exact HR0.out | (with_reducible refine Kd.C_alloc ?_ _) | (with_reducible refine Kd.C_drewN ?_ _) | (with_reducible refine Kd.C_drew ?_))); (case side2 => exact HC0.out); rintro e w' ⟨rfl, ⟨nd, rfl⟩⟩; (try first | exact ⟨rfl, _, World.drewN_drewN _ _ _⟩ | exact ⟨rfl, _, Eq.trans (World.drewN_drewN _ _ _) (congrArg (World.drewN _) (Nat.add_assoc _ _ _))⟩)))
  repeat (go_quiet (first | (go_at_call 20; (with_reducible refine (laws_big.calls _ _ l0 true _ ?side1 ?side2 A2.out).mono ?_); (case side1 => repeat (first | exact HR0.out | (with_reducible refine Kd.C_alloc ?_ _) | (with_reducible refine Kd.C_drewN ?_ _) | (with_reducible refine Kd.C_drew ?_))); (case side2 => exact HC0.out); rintro e w' ⟨rfl, ⟨nd, rfl⟩⟩; (try first | exact ⟨rfl, _, World.drewN_drewN _ _ _⟩ | exact ⟨rfl, _, Eq.trans (World.drewN_drewN _ _ _) (congrArg (World.drewN _) (Nat.add_assoc _ _ _))⟩))); try go_wp2_with (first | (go_at_call 20; (with_reducible refine (laws_big.calls _ _ l0 true _ ?side1 ?side2 A2.out).mono ?_); (case side1 => repeat (first | exact HR0.out | (with_reducible refine Kd.C_alloc ?_ _) | (with_reducible refine Kd.C_drewN ?_ _) | (with_reducible refine Kd.C_drew ?_))); (case side2 => exact HC0.out); rintro e w' ⟨rfl, ⟨nd, rfl⟩⟩; (try first | exact ⟨rfl, _, World.drewN_drewN _ _ _⟩ | exact ⟨rfl, _, Eq.trans (World.drewN_drewN _ _ _) (congrArg (World.drewN _) (Nat.add_assoc _ _ _))⟩))))
  go_ret
  exact ⟨by first | rfl | (simp [errW_none, errW_some] <;> rfl) | (simp [*, errW_none, errW_some] <;> rfl) | exact False.elim (Bool.noConfusion ((decide_eq_true (of_eq_true (by assumption))).symm.trans (by assumption))), bl_⟩
 ·replace c3 := Bool.eq_false_iff.mpr c3
  subst c3
  rw [if_neg (show ¬ (false = true) by decide)] at H
  replace H := Option.bind_eq_some_iff.mp H
  obtain ⟨t1183, A40, H⟩ := H
  try dsimp only at H
  have A4 := Aside0.mk A40
  clear A40
  replace H := Option.bind_eq_some_iff.mp H
  obtain ⟨t1186, A50, H⟩ := H
  try dsimp only at H
  have A5 := Aside0.mk A50
  clear A50
  replace H := Option.bind_eq_some_iff.mp H
  obtain ⟨t1189, A60, H⟩ := H
  try dsimp only at H
  have A6 := Aside0.mk A60
  clear A60
  have H' := Aside0.mk H
  clear H
  go_enter Try.func10, Try.ntmps10
  go_wp2_with (first | (go_at_call 20; (with_reducible refine (laws_big.calls _ _ l0 false _ ?side1 ?side2 A2.out).mono ?_); (case side1 => repeat (first | exact HR0.out | (with_reducible refine Kd.C_alloc ?_ _) | (with_reducible refine Kd.C_drewN ?_ _) | (with_reducible refine Kd.C_drew ?_))); (case side2 => exact HC0.out); rintro e w' ⟨rfl, ⟨nd, rfl⟩⟩; (try first | exact ⟨rfl, _, World.drewN_drewN _ _ _⟩ | exact ⟨rfl, _, Eq.trans (World.drewN_drewN _ _ _) (congrArg (World.drewN _) (Nat.add_assoc _ _ _))⟩)) | (go_at_call 54; (with_reducible refine (spec_DrawEntries.calls k _ _ l0 t1183 _ ?side1 ?side2 A4.out).mono ?_); (case side1 => repeat (first | exact HR0.out | (with_reducible refine Kd.C_alloc ?_ _) | (with_reducible refine Kd.C_drewN ?_ _) | (with_reducible refine Kd.C_drew ?_))); (case side2 => exact HC0.out); rintro e w7 ⟨v1184, rfl, ho0, hb⟩; have n0_ := Aside0.mk (Kd.R_lower ho0 (below_size bl_)); have n1_ := Aside0.mk (below_step bl_ hb); clear HB; have HO1185 := n0_; have HB := n1_; clear n0_ n1_; (try clear hb); (try clear hb2); (try clear hk); (try clear hi); (try clear ho0); obtain ⟨Ao8, co8, eo8⟩ := Kd.R_slice HO1185.out; subst eo8) | (go_at_call 50; (with_reducible refine (impl_TalliesOf.calls k _ _ t1183 t1186 _ ?side1 ?side2 A5.out).mono ?_); (case side1 => repeat (first | exact (Kd.R_reads' HO1185.out).2.2 | (with_reducible refine Kd.C_alloc ?_ _) | (with_reducible refine Kd.C_drewN ?_ _) | (with_reducible refine Kd.C_drew ?_))); (case side2 => exact (Kd.R_reads' HO1185.out).2.1); rintro e w9 ⟨v1187, rfl, ho0, hb⟩; have n0_ := Aside0.mk (Kd.R_below (ra_ HO1185.out) hb); have n1_ := Aside0.mk (Kd.R_lower ho0 (below_size bl_)); have n2_ := Aside0.mk (below_step bl_ hb); clear HO1185; clear HB; have HO1185 := n0_; have HO1188 := n1_; have HB := n2_; clear n0_ n1_ n2_; (try clear hb); (try clear hb2); (try clear hk); (try clear hi); (try clear ho0)) | (go_at_call 41; (with_reducible refine (impl_MostTold.calls k _ _ t1183 t1189 _ ?side1 ?side2 A6.out).mono ?_); (case side1 => repeat (first | exact (Kd.R_reads' HO1185.out).2.2 | (with_reducible refine Kd.C_alloc ?_ _) | (with_reducible refine Kd.C_drewN ?_ _) | (with_reducible refine Kd.C_drew ?_))); (case side2 => exact (Kd.R_reads' HO1185.out).2.1); rintro e w10 ⟨rfl, hb⟩; have n0_ := Aside0.mk (Kd.R_below (ra_ HO1185.out) hb); have n1_ := Aside0.mk (Kd.R_below (ra_ HO1188.out) hb); have n2_ := Aside0.mk (below_step bl_ hb); clear HO1185; clear HO1188; clear HB; have HO1185 := n0_; have HO1188 := n1_; have HB := n2_; clear n0_ n1_ n2_; (try clear hb); (try clear hb2); (try clear hk); (try clear hi)))
  repeat (go_quiet (first | (go_at_call 20; (with_reducible refine (laws_big.calls _ _ l0 false _ ?side1 ?side2 A2.out).mono ?_); (case side1 => repeat (first | exact HR0.out | (with_reducible refine Kd.C_alloc ?_ _) | (with_reducible refine Kd.C_drewN ?_ _) | (with_reducible refine Kd.C_drew ?_))); (case side2 => exact HC0.out); rintro e w' ⟨rfl, ⟨nd, rfl⟩⟩; (try first | exact ⟨rfl, _, World.drewN_drewN _ _ _⟩ | exact ⟨rfl, _, Eq.trans (World.drewN_drewN _ _ _) (congrArg (World.drewN _) (Nat.add_assoc _ _ _))⟩)) | (go_at_call 54; (with_reducible refine (spec_DrawEntries.calls k _ _ l0 t1183 _ ?side1 ?side2 A4.out).mono ?_); (case side1 => repeat (first | exact HR0.out | (with_reducible refine Kd.C_alloc ?_ _) | (with_reducible refine Kd.C_drewN ?_ _) | (with_reducible refine Kd.C_drew ?_))); (case side2 => exact HC0.out); rintro e w7 ⟨v1184, rfl, ho0, hb⟩; have n0_ := Aside0.mk (Kd.R_lower ho0 (below_size bl_)); have n1_ := Aside0.mk (below_step bl_ hb); clear HB; have HO1185 := n0_; have HB := n1_; clear n0_ n1_; (try clear hb); (try clear hb2); (try clear hk); (try clear hi); (try clear ho0); obtain ⟨Ao8, co8, eo8⟩ := Kd.R_slice HO1185.out; subst eo8) | (go_at_call 50; (with_reducible refine (impl_TalliesOf.calls k _ _ t1183 t1186 _ ?side1 ?side2 A5.out).mono ?_); (case side1 => repeat (first | exact (Kd.R_reads' HO1185.out).2.2 | (with_reducible refine Kd.C_alloc ?_ _) | (with_reducible refine Kd.C_drewN ?_ _) | (with_reducible refine Kd.C_drew ?_))); (case side2 => exact (Kd.R_reads' HO1185.out).2.1); rintro e w9 ⟨v1187, rfl, ho0, hb⟩; have n0_ := Aside0.mk (Kd.R_below (ra_ HO1185.out) hb); have n1_ := Aside0.mk (Kd.R_lower ho0 (below_size bl_)); have n2_ := Aside0.mk (below_step bl_ hb); clear HO1185; clear HB; have HO1185 := n0_; have HO1188 := n1_; have HB := n2_; clear n0_ n1_ n2_; (try clear hb); (try clear hb2); (try clear hk); (try clear hi); (try clear ho0)) | (go_at_call 41; (with_reducible refine (impl_MostTold.calls k _ _ t1183 t1189 _ ?side1 ?side2 A6.out).mono ?_); (case side1 => repeat (first | exact (Kd.R_reads' HO1185.out).2.2 | (with_reducible refine Kd.C_alloc ?_ _) | (with_reducible refine Kd.C_drewN ?_ _) | (with_reducible refine Kd.C_drew ?_))); (case side2 => exact (Kd.R_reads' HO1185.out).2.1); rintro e w10 ⟨rfl, hb⟩; have n0_ := Aside0.mk (Kd.R_below (ra_ HO1185.out) hb); have n1_ := Aside0.mk (Kd.R_below (ra_ HO1188.out) hb); have n2_ := Aside0.mk (below_step bl_ hb); clear HO1185; clear HO1188; clear HB; have HO1185 := n0_; have HO1188 := n1_; have HB := n2_; clear n0_ n1_ n2_; (try clear hb); (try clear hb2); (try clear hk); (try clear hi))); try go_wp2_with (first | (go_at_call 20; (with_reducible refine (laws_big.calls _ _ l0 false _ ?side1 ?side2 A2.out).mono ?_); (case side1 => repeat (first | exact HR0.out | (with_reducible refine Kd.C_alloc ?_ _) | (with_reducible refine Kd.C_drewN ?_ _) | (with_reducible refine Kd.C_drew ?_))); (case side2 => exact HC0.out); rintro e w' ⟨rfl, ⟨nd, rfl⟩⟩; (try first | exact ⟨rfl, _, World.drewN_drewN _ _ _⟩ | exact ⟨rfl, _, Eq.trans (World.drewN_drewN _ _ _) (congrArg (World.drewN _) (Nat.add_assoc _ _ _))⟩)) | (go_at_call 54; (with_reducible refine (spec_DrawEntries.calls k _ _ l0 t1183 _ ?side1 ?side2 A4.out).mono ?_); (case side1 => repeat (first | exact HR0.out | (with_reducible refine Kd.C_alloc ?_ _) | (with_reducible refine Kd.C_drewN ?_ _) | (with_reducible refine Kd.C_drew ?_))); (case side2 => exact HC0.out); rintro e w7 ⟨v1184, rfl, ho0, hb⟩; have n0_ := Aside0.mk (Kd.R_lower ho0 (below_size bl_)); have n1_ := Aside0.mk (below_step bl_ hb); clear HB; have HO1185 := n0_; have HB := n1_; clear n0_ n1_; (try clear hb); (try clear hb2); (try clear hk); (try clear hi); (try clear ho0); obtain ⟨Ao8, co8, eo8⟩ := Kd.R_slice HO1185.out; subst eo8) | (go_at_call 50; (with_reducible refine (impl_TalliesOf.calls k _ _ t1183 t1186 _ ?side1 ?side2 A5.out).mono ?_); (case side1 => repeat (first | exact (Kd.R_reads' HO1185.out).2.2 | (with_reducible refine Kd.C_alloc ?_ _) | (with_reducible refine Kd.C_drewN ?_ _) | (with_reducible refine Kd.C_drew ?_))); (case side2 => exact (Kd.R_reads' HO1185.out).2.1); rintro e w9 ⟨v1187, rfl, ho0, hb⟩; have n0_ := Aside0.mk (Kd.R_below (ra_ HO1185.out) hb); have n1_ := Aside0.mk (Kd.R_lower ho0 (below_size bl_)); have n2_ := Aside0.mk (below_step bl_ hb); clear HO1185; clear HB; have HO1185 := n0_; have HO1188 := n1_; have HB := n2_; clear n0_ n1_ n2_; (try clear hb); (try clear hb2); (try clear hk); (try clear hi); (try clear ho0)) | (go_at_call 41; (with_reducible refine (impl_MostTold.calls k _ _ t1183 t1189 _ ?side1 ?side2 A6.out).mono ?_); (case side1 => repeat (first | exact (Kd.R_reads' HO1185.out).2.2 | (with_reducible refine Kd.C_alloc ?_ _) | (with_reducible refine Kd.C_drewN ?_ _) | (with_reducible refine Kd.C_drew ?_))); (case side2 => exact (Kd.R_reads' HO1185.out).2.1); rintro e w10 ⟨rfl, hb⟩; have n0_ := Aside0.mk (Kd.R_below (ra_ HO1185.out) hb); have n1_ := Aside0.mk (Kd.R_below (ra_ HO1188.out) hb); have n2_ := Aside0.mk (below_step bl_ hb); clear HO1185; clear HO1188; clear HB; have HO1185 := n0_; have HO1188 := n1_; have HB := n2_; clear n0_ n1_ n2_; (try clear hb); (try clear hb2); (try clear hk); (try clear hi))))
  go_loopg [6, 7, 9] k (fun kq v6 v7 v9 w' => ∃ (x6_1 : Int) (x7_1 : Int) (x9_1 : Int), v6 = .int .i64 x6_1 ∧ v7 = .int .i64 x7_1 ∧ v9 = .int .i64 x9_1 ∧ Aside0 (laws_FnCounts.l0 kq l0 t1183 t1186 t1189 x6_1 x7_1 (t1189 == (-1)) x9_1 = some r) ∧ Aside0 (kq ≤ k) ∧ Aside0 (Kd.R k131 131 w' w.heap.size (fun _ => True) (.slice Ao8 t1183.length co8) t1183) ∧ Aside0 (Kd.R k65 65 w' w.heap.size (fun _ => True) v1187 t1186) ∧ Aside0 (Below w.heap.size w w'))
  case atStart => exact ⟨(0), (0), (0), (by first | rfl | (simp; done) | (simp [*]; done)), (by first | rfl | (simp; done) | (simp [*]; done)), (by first | rfl | (simp; done) | (simp [*]; done)), H', ⟨Nat.le_refl _⟩, ⟨ra_ HO1185.out⟩, ⟨ra_ HO1188.out⟩, ⟨bl_⟩⟩
  case round =>
   clear H'
   try clear c1
   try clear p2
   try clear c3
   try clear c10
   obtain ⟨x6_1, x7_1, x9_1, rfl, rfl, rfl, HA, HK1, HO_3, HO_4, HB⟩ := hrel
   cases gk with
   | zero => exact absurd HA.out (by simp [laws_FnCounts.l0])
   | succ k1 =>
    have H := HA.out
    clear HA
    simp only [laws_FnCounts.l0] at H
    by_cases c11 : x9_1 < (t1186.length : Int)
    ·rw [if_pos c11] at H
     have c11b0 : decide (x9_1 < (t1186.length : Int)) = true := decide_eq_true c11
     clear c11
     by_cases c12 : 0 ≤ x9_1
     ·rw [if_pos c12] at H
      have c12b0 : decide (0 ≤ x9_1) = true := decide_eq_true c12
      clear c12
      by_cases c13 : ((rd_T65 t1186 x9_1).f1) > x7_1
      ·rw [if_pos c13] at H
       have c13b0 : decide (x7_1 < ((rd_T65 t1186 x9_1).f1)) = true := decide_eq_true c13
       clear c13
       by_cases c14 : x9_1 > 0
       ·rw [if_pos c14] at H
        have c14b0 : decide (0 < x9_1) = true := decide_eq_true c14
        clear c14
        obtain ⟨ji15, hji15⟩ : ∃ j_ : Int, (wrap64 (x9_1 - 1)) = j_ := ⟨_, rfl⟩
        replace H : (if 0 ≤ (ji15) then (if (ji15) < (t1186.length : Int) then (if ((rd_T65 t1186 (ji15)).f0) ≥ ((rd_T65 t1186 x9_1).f0) then (some false) else (laws_FnCounts.l0 k1 l0 t1183 t1186 t1189 (wrap64 (x6_1 + ((rd_T65 t1186 x9_1).f1))) ((rd_T65 t1186 x9_1).f1) (t1189 == (-1)) (wrap64 (x9_1 + 1)))) else (none)) else (none)) = some r := by first | (rw [hji15] at H; exact H) | (simp only [hji15] at H ⊢; exact H)
        have hji15w : (IntKind.i64.wrap (x9_1 - 1)) = ji15 := (i64_w _).trans hji15
        by_cases c16 : 0 ≤ (ji15)
        ·rw [if_pos c16] at H
         have c16b0 : decide (0 ≤ (ji15)) = true := decide_eq_true c16
         clear c16
         by_cases c17 : (ji15) < (t1186.length : Int)
         ·rw [if_pos c17] at H
          have c17b0 : decide ((ji15) < (t1186.length : Int)) = true := decide_eq_true c17
          clear c17
          by_cases c18 : ((rd_T65 t1186 (ji15)).f0) ≥ ((rd_T65 t1186 x9_1).f0)
          ·rw [if_pos c18] at H
           have c18b0 : decide (((rd_T65 t1186 x9_1).f0) ≤ ((rd_T65 t1186 (ji15)).f0)) = true := decide_eq_true c18
           clear c18
           exact absurd ((Option.some.inj H).trans HR1.out) (by decide)
          ·rw [if_neg c18] at H
           have c18b0 : decide (((rd_T65 t1186 x9_1).f0) ≤ ((rd_T65 t1186 (ji15)).f0)) = false := decide_eq_false c18
           clear c18
           have H' := Aside0.mk H
           clear H
           obtain ⟨Ao19, co19, eo19⟩ := Kd.R_slice HO_4.out
           subst eo19
           have p1190 : 0 ≤ (x9_1 : Int) := of_decide_eq_true as_
           have q1190 : x9_1 < (t1186.length : Int) := of_decide_eq_true as_
           obtain ⟨ad1190, e1190, hx1190_0, hx1190_1⟩ := at_T65 (Kd.R_reads' HO_4.out).2.2 x9_1 p1190 q1190
           cases e1190
           replace p1190 := eq_true p1190
           replace q1190 := eq_true q1190
           have p1191 : 0 ≤ (x9_1 : Int) := of_decide_eq_true as_
           have q1191 : x9_1 < (t1186.length : Int) := of_decide_eq_true as_
           obtain ⟨ad1191, e1191, hx1191_0, hx1191_1⟩ := at_T65 (Kd.R_reads' HO_4.out).2.2 x9_1 p1191 q1191
           obtain rfl : ad1190 = ad1191 := (by injection e1191)
           replace p1191 := eq_true p1191
           replace q1191 := eq_true q1191
           have p1192 : 0 ≤ (x9_1 : Int) := of_decide_eq_true as_
           have q1192 : x9_1 < (t1186.length : Int) := of_decide_eq_true as_
           obtain ⟨ad1192, e1192, hx1192_0, hx1192_1⟩ := at_T65 (Kd.R_reads' HO_4.out).2.2 x9_1 p1192 q1192
           obtain rfl : ad1190 = ad1192 := (by injection e1192)
           replace p1192 := eq_true p1192
           replace q1192 := eq_true q1192
           have p1193 : 0 ≤ ((ji15) : Int) := of_decide_eq_true as_
           have q1193 : (ji15) < (t1186.length : Int) := of_decide_eq_true as_
           obtain ⟨ad1193, e1193, hx1193_0, hx1193_1⟩ := at_T65 (Kd.R_reads' HO_4.out).2.2 (ji15) p1193 q1193
           obtain rfl : ad1190 = ad1193 := (by injection e1193)
           replace p1193 := eq_true p1193
           replace q1193 := eq_true q1193
           have p1194 : 0 ≤ (x9_1 : Int) := of_decide_eq_true as_
           have q1194 : x9_1 < (t1186.length : Int) := of_decide_eq_true as_
           obtain ⟨ad1194, e1194, hx1194_0, hx1194_1⟩ := at_T65 (Kd.R_reads' HO_4.out).2.2 x9_1 p1194 q1194
           obtain rfl : ad1190 = ad1194 := (by injection e1194)
           replace p1194 := eq_true p1194
           replace q1194 := eq_true q1194
           go_wp2
           repeat (go_quiet (fail); try go_wp2)
           go_roundg k1
           case measure => have := HK1.out; omega
           case rel => exact ⟨(wrap64 (x6_1 + ((rd_T65 t1186 x9_1).f1))), ((rd_T65 t1186 x9_1).f1), (wrap64 (x9_1 + 1)), (by first | rfl | (simp; done) | (simp [*]; done)), (by first | rfl | (simp; done) | (simp [*]; done)), (by first | rfl | (simp; done) | (simp [*]; done)), H', ⟨by have := HK1.out; omega⟩, ⟨ra_ HO_3.out⟩, ⟨ra_ HO_4.out⟩, ⟨bl_⟩⟩
         ·rw [if_neg c17] at H
          exact absurd H (by simp)
        ·rw [if_neg c16] at H
         exact absurd H (by simp)
       ·rw [if_neg c14] at H
        have c14b0 : decide (0 < x9_1) = false := decide_eq_false c14
        clear c14
        have H' := Aside0.mk H
        clear H
        obtain ⟨Ao20, co20, eo20⟩ := Kd.R_slice HO_4.out
        subst eo20
        have p1190 : 0 ≤ (x9_1 : Int) := of_decide_eq_true as_
        have q1190 : x9_1 < (t1186.length : Int) := of_decide_eq_true as_
        obtain ⟨ad1190, e1190, hx1190_0, hx1190_1⟩ := at_T65 (Kd.R_reads' HO_4.out).2.2 x9_1 p1190 q1190
        cases e1190
        replace p1190 := eq_true p1190
        replace q1190 := eq_true q1190
        have p1191 : 0 ≤ (x9_1 : Int) := of_decide_eq_true as_
        have q1191 : x9_1 < (t1186.length : Int) := of_decide_eq_true as_
        obtain ⟨ad1191, e1191, hx1191_0, hx1191_1⟩ := at_T65 (Kd.R_reads' HO_4.out).2.2 x9_1 p1191 q1191
        obtain rfl : ad1190 = ad1191 := (by injection e1191)
        replace p1191 := eq_true p1191
        replace q1191 := eq_true q1191
        have p1192 : 0 ≤ (x9_1 : Int) := of_decide_eq_true as_
        have q1192 : x9_1 < (t1186.length : Int) := of_decide_eq_true as_
        obtain ⟨ad1192, e1192, hx1192_0, hx1192_1⟩ := at_T65 (Kd.R_reads' HO_4.out).2.2 x9_1 p1192 q1192
        obtain rfl : ad1190 = ad1192 := (by injection e1192)
        replace p1192 := eq_true p1192
        replace q1192 := eq_true q1192
        go_wp2
        repeat (go_quiet (fail); try go_wp2)
        go_roundg k1
        case measure => have := HK1.out; omega
        case rel => exact ⟨(wrap64 (x6_1 + ((rd_T65 t1186 x9_1).f1))), ((rd_T65 t1186 x9_1).f1), (wrap64 (x9_1 + 1)), (by first | rfl | (simp; done) | (simp [*]; done)), (by first | rfl | (simp; done) | (simp [*]; done)), (by first | rfl | (simp; done) | (simp [*]; done)), H', ⟨by have := HK1.out; omega⟩, ⟨ra_ HO_3.out⟩, ⟨ra_ HO_4.out⟩, ⟨bl_⟩⟩
      ·rw [if_neg c13] at H
       have c13b0 : decide (x7_1 < ((rd_T65 t1186 x9_1).f1)) = false := decide_eq_false c13
       clear c13
       by_cases c21 : x9_1 > 0
       ·rw [if_pos c21] at H
        have c21b0 : decide (0 < x9_1) = true := decide_eq_true c21
        clear c21
        obtain ⟨ji22, hji22⟩ : ∃ j_ : Int, (wrap64 (x9_1 - 1)) = j_ := ⟨_, rfl⟩
        replace H : (if 0 ≤ (ji22) then (if (ji22) < (t1186.length : Int) then (if ((rd_T65 t1186 (ji22)).f0) ≥ ((rd_T65 t1186 x9_1).f0) then (some false) else (laws_FnCounts.l0 k1 l0 t1183 t1186 t1189 (wrap64 (x6_1 + ((rd_T65 t1186 x9_1).f1))) x7_1 (t1189 == (-1)) (wrap64 (x9_1 + 1)))) else (none)) else (none)) = some r := by first | (rw [hji22] at H; exact H) | (simp only [hji22] at H ⊢; exact H)
        (try rw [hji22] at hji15)
        have hji22w : (IntKind.i64.wrap (x9_1 - 1)) = ji22 := (i64_w _).trans hji22
        by_cases c23 : 0 ≤ (ji22)
        ·rw [if_pos c23] at H
         have c23b0 : decide (0 ≤ (ji22)) = true := decide_eq_true c23
         clear c23
         by_cases c24 : (ji22) < (t1186.length : Int)
         ·rw [if_pos c24] at H
          have c24b0 : decide ((ji22) < (t1186.length : Int)) = true := decide_eq_true c24
          clear c24
          by_cases c25 : ((rd_T65 t1186 (ji22)).f0) ≥ ((rd_T65 t1186 x9_1).f0)
          ·rw [if_pos c25] at H
           have c25b0 : decide (((rd_T65 t1186 x9_1).f0) ≤ ((rd_T65 t1186 (ji22)).f0)) = true := decide_eq_true c25
           clear c25
           exact absurd ((Option.some.inj H).trans HR1.out) (by decide)
          ·rw [if_neg c25] at H
           have c25b0 : decide (((rd_T65 t1186 x9_1).f0) ≤ ((rd_T65 t1186 (ji22)).f0)) = false := decide_eq_false c25
           clear c25
           have H' := Aside0.mk H
           clear H
           obtain ⟨Ao26, co26, eo26⟩ := Kd.R_slice HO_4.out
           subst eo26
           have p1190 : 0 ≤ (x9_1 : Int) := of_decide_eq_true as_
           have q1190 : x9_1 < (t1186.length : Int) := of_decide_eq_true as_
           obtain ⟨ad1190, e1190, hx1190_0, hx1190_1⟩ := at_T65 (Kd.R_reads' HO_4.out).2.2 x9_1 p1190 q1190
           cases e1190
           replace p1190 := eq_true p1190
           replace q1190 := eq_true q1190
           have p1191 : 0 ≤ (x9_1 : Int) := of_decide_eq_true as_
           have q1191 : x9_1 < (t1186.length : Int) := of_decide_eq_true as_
           obtain ⟨ad1191, e1191, hx1191_0, hx1191_1⟩ := at_T65 (Kd.R_reads' HO_4.out).2.2 x9_1 p1191 q1191
           obtain rfl : ad1190 = ad1191 := (by injection e1191)
           replace p1191 := eq_true p1191
           replace q1191 := eq_true q1191
           have p1195 : 0 ≤ ((ji22) : Int) := of_decide_eq_true as_
           have q1195 : (ji22) < (t1186.length : Int) := of_decide_eq_true as_
           obtain ⟨ad1195, e1195, hx1195_0, hx1195_1⟩ := at_T65 (Kd.R_reads' HO_4.out).2.2 (ji22) p1195 q1195
           obtain rfl : ad1190 = ad1195 := (by injection e1195)
           replace p1195 := eq_true p1195
           replace q1195 := eq_true q1195
           have p1196 : 0 ≤ (x9_1 : Int) := of_decide_eq_true as_
           have q1196 : x9_1 < (t1186.length : Int) := of_decide_eq_true as_
           obtain ⟨ad1196, e1196, hx1196_0, hx1196_1⟩ := at_T65 (Kd.R_reads' HO_4.out).2.2 x9_1 p1196 q1196
           obtain rfl : ad1190 = ad1196 := (by injection e1196)
           replace p1196 := eq_true p1196
           replace q1196 := eq_true q1196
           go_wp2
           repeat (go_quiet (fail); try go_wp2)
           go_roundg k1
           case measure => have := HK1.out; omega
           case rel => exact ⟨(wrap64 (x6_1 + ((rd_T65 t1186 x9_1).f1))), (x7_1), (wrap64 (x9_1 + 1)), (by first | rfl | (simp; done) | (simp [*]; done)), (by first | rfl | (simp; done) | (simp [*]; done)), (by first | rfl | (simp; done) | (simp [*]; done)), H', ⟨by have := HK1.out; omega⟩, ⟨ra_ HO_3.out⟩, ⟨ra_ HO_4.out⟩, ⟨bl_⟩⟩
         ·rw [if_neg c24] at H
          exact absurd H (by simp)
        ·rw [if_neg c23] at H
         exact absurd H (by simp)
       ·rw [if_neg c21] at H
        have c21b0 : decide (0 < x9_1) = false := decide_eq_false c21
        clear c21
        have H' := Aside0.mk H
        clear H
        obtain ⟨Ao27, co27, eo27⟩ := Kd.R_slice HO_4.out
        subst eo27
        have p1190 : 0 ≤ (x9_1 : Int) := of_decide_eq_true as_
        have q1190 : x9_1 < (t1186.length : Int) := of_decide_eq_true as_
        obtain ⟨ad1190, e1190, hx1190_0, hx1190_1⟩ := at_T65 (Kd.R_reads' HO_4.out).2.2 x9_1 p1190 q1190
        cases e1190
        replace p1190 := eq_true p1190
        replace q1190 := eq_true q1190
        have p1191 : 0 ≤ (x9_1 : Int) := of_decide_eq_true as_
        have q1191 : x9_1 < (t1186.length : Int) := of_decide_eq_true as_
        obtain ⟨ad1191, e1191, hx1191_0, hx1191_1⟩ := at_T65 (Kd.R_reads' HO_4.out).2.2 x9_1 p1191 q1191
        obtain rfl : ad1190 = ad1191 := (by injection e1191)
        replace p1191 := eq_true p1191
        replace q1191 := eq_true q1191
        go_wp2
        repeat (go_quiet (fail); try go_wp2)
        go_roundg k1
        case measure => have := HK1.out; omega
        case rel => exact ⟨(wrap64 (x6_1 + ((rd_T65 t1186 x9_1).f1))), (x7_1), (wrap64 (x9_1 + 1)), (by first | rfl | (simp; done) | (simp [*]; done)), (by first | rfl | (simp; done) | (simp [*]; done)), (by first | rfl | (simp; done) | (simp [*]; done)), H', ⟨by have := HK1.out; omega⟩, ⟨ra_ HO_3.out⟩, ⟨ra_ HO_4.out⟩, ⟨bl_⟩⟩
     ·rw [if_neg c12] at H
      exact absurd H (by simp)
    ·rw [if_neg c11] at H
     have c11b0 : decide (x9_1 < (t1186.length : Int)) = false := decide_eq_false c11
     clear c11
     have H' := Aside0.mk H
     clear H
     obtain ⟨Ao28, co28, eo28⟩ := Kd.R_slice HO_4.out
     subst eo28
     go_wp2
     repeat (go_quiet (fail); try go_wp2)
     go_loopg [8, 10] k1 (fun kq v8 v10 w' => ∃ (x8_2 : Bool) (x10_2 : Int), v8 = .bool x8_2 ∧ v10 = .int .i64 x10_2 ∧ Aside0 (laws_FnCounts.l1 kq l0 t1183 t1186 t1189 x6_1 x7_1 x8_2 x10_2 = some r) ∧ Aside0 (kq ≤ k1) ∧ Aside0 (Kd.R k131 131 w' w.heap.size (fun _ => True) (.slice Ao8 t1183.length co8) t1183) ∧ Aside0 (Kd.R k65 65 w' w.heap.size (fun _ => True) (.slice Ao28 t1186.length co28) t1186) ∧ Aside0 (Below w.heap.size w w'))
     case atStart => exact ⟨((t1189 == (-1))), (0), (by first | rfl | (simp; done) | (simp [*]; done)), (by first | rfl | (simp; done) | (simp [*]; done)), H', ⟨Nat.le_refl _⟩, ⟨ra_ HO_3.out⟩, ⟨ra_ HO_4.out⟩, ⟨bl_⟩⟩
     case round =>
      clear H'
      try clear c1
      try clear p1
      try clear q1
      try clear hx1
      try clear c2
      try clear p2
      try clear c3
      try clear p6
      try clear c10
      try clear c11
      try clear c11b0
      try clear p11
      try clear q11
      try clear hx11
      try clear c12
      try clear c12b0
      try clear c13
      try clear c13b0
      try clear c14
      try clear c14b0
      try clear c16
      try clear c16b0
      try clear c17
      try clear c17b0
      try clear c18
      try clear c18b0
      try clear c21
      try clear c21b0
      try clear c23
      try clear c23b0
      try clear c24
      try clear c24b0
      try clear c25
      try clear c25b0
      try clear hx1190_0
      try clear hx1190_1
      try clear hx1191_0
      try clear hx1191_1
      try clear hx1192_0
      try clear hx1192_1
      try clear hx1193_0
      try clear hx1193_1
      try clear hx1194_0
      try clear hx1194_1
      try clear hx1195_0
      try clear hx1195_1
      try clear hx1196_0
      try clear hx1196_1
      try clear p1190
      try clear p1191
      try clear p1192
      try clear p1193
      try clear p1194
      try clear p1195
      try clear p1196
      try clear p2
      try clear q1190
      try clear q1191
      try clear q1192
      try clear q1193
      try clear q1194
      try clear q1195
      try clear q1196
      obtain ⟨x8_2, x10_2, rfl, rfl, HA, HK2, HO_3, HO_4, HB⟩ := hrel
      cases gk with
      | zero => exact absurd HA.out (by simp [laws_FnCounts.l1])
      | succ k2 =>
       have H := HA.out
       clear HA
       simp only [laws_FnCounts.l1] at H
       by_cases c29 : x10_2 < (t1186.length : Int)
       ·rw [if_pos c29] at H
        have c29b0 : decide (x10_2 < (t1186.length : Int)) = true := decide_eq_true c29
        clear c29
        by_cases c30 : x8_2 = true
        ·subst c30
         rw [if_pos rfl] at H
         have H' := Aside0.mk H
         clear H
         go_wp2
         repeat (go_quiet (fail); try go_wp2)
         go_roundg k2
         case measure => have := HK1.out; have := HK2.out; omega
         case rel => exact ⟨(true), (wrap64 (x10_2 + 1)), (by first | rfl | (simp; done) | (simp [*]; done)), (by first | rfl | (simp; done) | (simp [*]; done)), H', ⟨by have := HK1.out; have := HK2.out; omega⟩, ⟨ra_ HO_3.out⟩, ⟨ra_ HO_4.out⟩, ⟨bl_⟩⟩
        ·replace c30 := Bool.eq_false_iff.mpr c30
         subst c30
         rw [if_neg (show ¬ (false = true) by decide)] at H
         by_cases c31 : 0 ≤ x10_2
         ·rw [if_pos c31] at H
          have c31b0 : decide (0 ≤ x10_2) = true := decide_eq_true c31
          clear c31
          by_cases c32 : ((rd_T65 t1186 x10_2).f0) = t1189
          ·rw [if_pos c32] at H
           have c32b0 : (((rd_T65 t1186 x10_2).f0) == t1189) = true := beq_iff_eq.mpr c32
           have c32b1 : (((rd_T65 t1186 x10_2).f0) != t1189) = false := bne_eq_false_iff_eq.mpr c32
           clear c32
           have H' := Aside0.mk H
           clear H
           have p1197 : 0 ≤ (x10_2 : Int) := of_decide_eq_true as_
           have q1197 : x10_2 < (t1186.length : Int) := of_decide_eq_true as_
           obtain ⟨ad1197, e1197, hx1197_0, hx1197_1⟩ := at_T65 (Kd.R_reads' HO_4.out).2.2 x10_2 p1197 q1197
           cases e1197
           replace p1197 := eq_true p1197
           replace q1197 := eq_true q1197
           have p1198 : 0 ≤ (x10_2 : Int) := of_decide_eq_true as_
           have q1198 : x10_2 < (t1186.length : Int) := of_decide_eq_true as_
           obtain ⟨ad1198, e1198, hx1198_0, hx1198_1⟩ := at_T65 (Kd.R_reads' HO_4.out).2.2 x10_2 p1198 q1198
           obtain rfl : ad1197 = ad1198 := (by injection e1198)
           replace p1198 := eq_true p1198
           replace q1198 := eq_true q1198
           go_wp2
           repeat (go_quiet (fail); try go_wp2)
           go_roundg k2
           case measure => have := HK1.out; have := HK2.out; omega
           case rel => exact ⟨((((rd_T65 t1186 x10_2).f1) == x7_1)), (wrap64 (x10_2 + 1)), (by first | rfl | (simp; done) | (simp [*]; done)), (by first | rfl | (simp; done) | (simp [*]; done)), H', ⟨by have := HK1.out; have := HK2.out; omega⟩, ⟨ra_ HO_3.out⟩, ⟨ra_ HO_4.out⟩, ⟨bl_⟩⟩
          ·rw [if_neg c32] at H
           have c32b0 : (((rd_T65 t1186 x10_2).f0) == t1189) = false := beq_eq_false_iff_ne.mpr c32
           have c32b1 : (((rd_T65 t1186 x10_2).f0) != t1189) = true := bne_iff_ne.mpr c32
           have H' := Aside0.mk H
           clear H
           have p1197 : 0 ≤ (x10_2 : Int) := of_decide_eq_true as_
           have q1197 : x10_2 < (t1186.length : Int) := of_decide_eq_true as_
           obtain ⟨ad1197, e1197, hx1197_0, hx1197_1⟩ := at_T65 (Kd.R_reads' HO_4.out).2.2 x10_2 p1197 q1197
           cases e1197
           replace p1197 := eq_true p1197
           replace q1197 := eq_true q1197
           go_wp2
           repeat (go_quiet (fail); try go_wp2)
           go_roundg k2
           case measure => have := HK1.out; have := HK2.out; omega
           case rel => exact ⟨(false), (wrap64 (x10_2 + 1)), (by first | rfl | (simp; done) | (simp [*]; done)), (by first | rfl | (simp; done) | (simp [*]; done)), H', ⟨by have := HK1.out; have := HK2.out; omega⟩, ⟨ra_ HO_3.out⟩, ⟨ra_ HO_4.out⟩, ⟨bl_⟩⟩
         ·rw [if_neg c31] at H
          exact absurd H (by simp)
       ·rw [if_neg c29] at H
        have c29b0 : decide (x10_2 < (t1186.length : Int)) = false := decide_eq_false c29
        clear c29
        replace H := Option.bind_eq_some_iff.mp H
        obtain ⟨t1199, A330, H⟩ := H
        try dsimp only at H
        have A33 := Aside0.mk A330
        clear A330
        have H' := Aside0.mk H
        clear H
        go_wp2_with (first | (go_at_call 44; (with_reducible refine (impl_PidsIn.calls k2 _ _ t1183 t1199 _ ?side1 ?side2 A33.out).mono ?_); (case side1 => repeat (first | exact (Kd.R_reads' HO_3.out).2.2 | (with_reducible refine Kd.C_alloc ?_ _) | (with_reducible refine Kd.C_drewN ?_ _) | (with_reducible refine Kd.C_drew ?_))); (case side2 => exact (Kd.R_reads' HO_3.out).2.1); rintro e w34 ⟨v1200, rfl, ho0, hb⟩; have n0_ := Aside0.mk (Kd.R_below (ra_ HO_3.out) hb); have n1_ := Aside0.mk (Kd.R_below (ra_ HO_4.out) hb); have n2_ := Aside0.mk (Kd.R_lower ho0 (below_size bl_)); have n3_ := Aside0.mk (below_step bl_ hb); clear HO_3; clear HO_4; clear HB; have HO_3 := n0_; have HO_4 := n1_; have HO1201 := n2_; have HB := n3_; clear n0_ n1_ n2_ n3_; (try clear hb); (try clear hb2); (try clear hk); (try clear hi); (try clear ho0)))
        repeat (go_quiet (first | (go_at_call 44; (with_reducible refine (impl_PidsIn.calls k2 _ _ t1183 t1199 _ ?side1 ?side2 A33.out).mono ?_); (case side1 => repeat (first | exact (Kd.R_reads' HO_3.out).2.2 | (with_reducible refine Kd.C_alloc ?_ _) | (with_reducible refine Kd.C_drewN ?_ _) | (with_reducible refine Kd.C_drew ?_))); (case side2 => exact (Kd.R_reads' HO_3.out).2.1); rintro e w34 ⟨v1200, rfl, ho0, hb⟩; have n0_ := Aside0.mk (Kd.R_below (ra_ HO_3.out) hb); have n1_ := Aside0.mk (Kd.R_below (ra_ HO_4.out) hb); have n2_ := Aside0.mk (Kd.R_lower ho0 (below_size bl_)); have n3_ := Aside0.mk (below_step bl_ hb); clear HO_3; clear HO_4; clear HB; have HO_3 := n0_; have HO_4 := n1_; have HO1201 := n2_; have HB := n3_; clear n0_ n1_ n2_ n3_; (try clear hb); (try clear hb2); (try clear hk); (try clear hi); (try clear ho0))); try go_wp2_with (first | (go_at_call 44; (with_reducible refine (impl_PidsIn.calls k2 _ _ t1183 t1199 _ ?side1 ?side2 A33.out).mono ?_); (case side1 => repeat (first | exact (Kd.R_reads' HO_3.out).2.2 | (with_reducible refine Kd.C_alloc ?_ _) | (with_reducible refine Kd.C_drewN ?_ _) | (with_reducible refine Kd.C_drew ?_))); (case side2 => exact (Kd.R_reads' HO_3.out).2.1); rintro e w34 ⟨v1200, rfl, ho0, hb⟩; have n0_ := Aside0.mk (Kd.R_below (ra_ HO_3.out) hb); have n1_ := Aside0.mk (Kd.R_below (ra_ HO_4.out) hb); have n2_ := Aside0.mk (Kd.R_lower ho0 (below_size bl_)); have n3_ := Aside0.mk (below_step bl_ hb); clear HO_3; clear HO_4; clear HB; have HO_3 := n0_; have HO_4 := n1_; have HO1201 := n2_; have HB := n3_; clear n0_ n1_ n2_ n3_; (try clear hb); (try clear hb2); (try clear hk); (try clear hi); (try clear ho0))))
        go_loopg [12, 13] k2 (fun kq v12 v13 w' => ∃ (x12_3 : Int) (x13_3 : Int), v12 = .int .i64 x12_3 ∧ v13 = .int .i64 x13_3 ∧ Aside0 (laws_FnCounts.l2 kq l0 t1183 x6_1 x8_2 t1199 x12_3 x13_3 = some r) ∧ Aside0 (kq ≤ k2) ∧ Aside0 (Kd.R k131 131 w' w.heap.size (fun _ => True) (.slice Ao8 t1183.length co8) t1183) ∧ Aside0 (Kd.R (Kd.int .i64) 3 w' w.heap.size (fun _ => True) v1200 t1199) ∧ Aside0 (Below w.heap.size w w'))
        case atStart => exact ⟨(0), (0), (by first | rfl | (simp; done) | (simp [*]; done)), (by first | rfl | (simp; done) | (simp [*]; done)), H', ⟨Nat.le_refl _⟩, ⟨ra_ HO_3.out⟩, ⟨ra_ HO1201.out⟩, ⟨bl_⟩⟩
        case round =>
         clear H'
         try clear c1
         try clear p1
         try clear q1
         try clear hx1
         try clear c2
         try clear p2
         try clear c3
         try clear p6
         try clear c10
         try clear c11
         try clear c11b0
         try clear p11
         try clear q11
         try clear hx11
         try clear c12
         try clear c12b0
         try clear c13
         try clear c13b0
         try clear c14
         try clear c14b0
         try clear c16
         try clear c16b0
         try clear c17
         try clear c17b0
         try clear c18
         try clear c18b0
         try clear c21
         try clear c21b0
         try clear c23
         try clear c23b0
         try clear c24
         try clear c24b0
         try clear c25
         try clear c25b0
         try clear c29
         try clear c29b0
         try clear c30
         try clear c31
         try clear c31b0
         try clear c32
         try clear c32b0
         try clear c32b1
         try clear hx1190_0
         try clear hx1190_1
         try clear hx1191_0
         try clear hx1191_1
         try clear hx1192_0
         try clear hx1192_1
         try clear hx1193_0
         try clear hx1193_1
         try clear hx1194_0
         try clear hx1194_1
         try clear hx1195_0
         try clear hx1195_1
         try clear hx1196_0
         try clear hx1196_1
         try clear hx1197_0
         try clear hx1197_1
         try clear hx1198_0
         try clear hx1198_1
         try clear p1
         try clear p11
         try clear p1190
         try clear p1191
         try clear p1192
         try clear p1193
         try clear p1194
         try clear p1195
         try clear p1196
         try clear p1197
         try clear p1198
         try clear p2
         try clear p6
         try clear q1
         try clear q11
         try clear q1190
         try clear q1191
         try clear q1192
         try clear q1193
         try clear q1194
         try clear q1195
         try clear q1196
         try clear q1197
         try clear q1198
         obtain ⟨x12_3, x13_3, rfl, rfl, HA, HK3, HO_3, HO_11, HB⟩ := hrel
         cases gk with
         | zero => exact absurd HA.out (by simp [laws_FnCounts.l2])
         | succ k3 =>
          have H := HA.out
          clear HA
          simp only [laws_FnCounts.l2] at H
          by_cases c35 : x13_3 < (t1199.length : Int)
          ·rw [if_pos c35] at H
           have c35b0 : decide (x13_3 < (t1199.length : Int)) = true := decide_eq_true c35
           clear c35
           by_cases c36 : 0 ≤ x13_3
           ·rw [if_pos c36] at H
            have c36b0 : decide (0 ≤ x13_3) = true := decide_eq_true c36
            clear c36
            replace H := Option.bind_eq_some_iff.mp H
            obtain ⟨t1203, A370, H⟩ := H
            try dsimp only at H
            have A37 := Aside0.mk A370
            clear A370
            have H' := Aside0.mk H
            clear H
            obtain ⟨Ao38, co38, eo38⟩ := Kd.R_slice HO_11.out
            subst eo38
            have p1202 : 0 ≤ (x13_3 : Int) := of_decide_eq_true as_
            have q1202 : x13_3 < (t1199.length : Int) := of_decide_eq_true as_
            obtain ⟨ad1202, e1202, hx1202_0⟩ := Kd.at_int (Kd.R_reads' HO_11.out).2.2 x13_3 p1202 q1202
            cases e1202
            replace p1202 := eq_true p1202
            replace q1202 := eq_true q1202
            go_wp2_with (first | (go_at_call 55; (with_reducible refine (impl_ToldBy.calls k3 _ _ t1183 (rd t1199 x13_3) t1203 _ ?side1 ?side2 A37.out).mono ?_); (case side1 => repeat (first | exact (Kd.R_reads' HO_3.out).2.2 | (with_reducible refine Kd.C_alloc ?_ _) | (with_reducible refine Kd.C_drewN ?_ _) | (with_reducible refine Kd.C_drew ?_))); (case side2 => exact (Kd.R_reads' HO_3.out).2.1); rintro e w39 ⟨rfl, hb⟩; have n0_ := Aside0.mk (Kd.R_below (ra_ HO_3.out) hb); have n1_ := Aside0.mk (Kd.R_below (ra_ HO_11.out) hb); have n2_ := Aside0.mk (below_step bl_ hb); clear HO_3; clear HO_11; clear HB; have HO_3 := n0_; have HO_11 := n1_; have HB := n2_; clear n0_ n1_ n2_; (try clear hb); (try clear hb2); (try clear hk); (try clear hi)))
            repeat (go_quiet (first | (go_at_call 55; (with_reducible refine (impl_ToldBy.calls k3 _ _ t1183 (rd t1199 x13_3) t1203 _ ?side1 ?side2 A37.out).mono ?_); (case side1 => repeat (first | exact (Kd.R_reads' HO_3.out).2.2 | (with_reducible refine Kd.C_alloc ?_ _) | (with_reducible refine Kd.C_drewN ?_ _) | (with_reducible refine Kd.C_drew ?_))); (case side2 => exact (Kd.R_reads' HO_3.out).2.1); rintro e w39 ⟨rfl, hb⟩; have n0_ := Aside0.mk (Kd.R_below (ra_ HO_3.out) hb); have n1_ := Aside0.mk (Kd.R_below (ra_ HO_11.out) hb); have n2_ := Aside0.mk (below_step bl_ hb); clear HO_3; clear HO_11; clear HB; have HO_3 := n0_; have HO_11 := n1_; have HB := n2_; clear n0_ n1_ n2_; (try clear hb); (try clear hb2); (try clear hk); (try clear hi))); try go_wp2_with (first | (go_at_call 55; (with_reducible refine (impl_ToldBy.calls k3 _ _ t1183 (rd t1199 x13_3) t1203 _ ?side1 ?side2 A37.out).mono ?_); (case side1 => repeat (first | exact (Kd.R_reads' HO_3.out).2.2 | (with_reducible refine Kd.C_alloc ?_ _) | (with_reducible refine Kd.C_drewN ?_ _) | (with_reducible refine Kd.C_drew ?_))); (case side2 => exact (Kd.R_reads' HO_3.out).2.1); rintro e w39 ⟨rfl, hb⟩; have n0_ := Aside0.mk (Kd.R_below (ra_ HO_3.out) hb); have n1_ := Aside0.mk (Kd.R_below (ra_ HO_11.out) hb); have n2_ := Aside0.mk (below_step bl_ hb); clear HO_3; clear HO_11; clear HB; have HO_3 := n0_; have HO_11 := n1_; have HB := n2_; clear n0_ n1_ n2_; (try clear hb); (try clear hb2); (try clear hk); (try clear hi))))
            go_roundg k3
            case measure => have := HK1.out; have := HK2.out; have := HK3.out; omega
            case rel => exact ⟨(wrap64 (x12_3 + t1203)), (wrap64 (x13_3 + 1)), (by first | rfl | (simp; done) | (simp [*]; done)), (by first | rfl | (simp; done) | (simp [*]; done)), H', ⟨by have := HK1.out; have := HK2.out; have := HK3.out; omega⟩, ⟨ra_ HO_3.out⟩, ⟨ra_ HO_11.out⟩, ⟨bl_⟩⟩
           ·rw [if_neg c36] at H
            exact absurd H (by simp)
          ·rw [if_neg c35] at H
           have c35b0 : decide (x13_3 < (t1199.length : Int)) = false := decide_eq_false c35
           clear c35
           obtain ⟨y1204, hy1204⟩ : ∃ y_ : List (S131), y_ = (([] : List (S131))) := ⟨_, rfl⟩
           replace H : (if y1204.length + t1183.length < 2932031007402 then ((some (y1204 ++ t1183 : List (S131))).bind fun y1207 => (if y1207.length + t1183.length < 2932031007402 then ((some (y1207 ++ t1183 : List (S131))).bind fun y1210 => ((spec_DrawPlaces.f k3 l0).bind fun t1213 => (if 0 < (t1213.length : Int) then (if x6_1 = x12_3 then (if x8_2 = true then ((impl_ToldBy.f k3 y1210 (Int.tmod (rd t1213 0) 3)).bind fun t1217 => ((impl_ToldBy.f k3 t1183 (Int.tmod (rd t1213 0) 3)).bind fun t1218 => (if t1217 = (wrap64 (2 * t1218)) then ((impl_PidsIn.f k3 y1210).bind fun t1219 => ((laws_sameInts.f k3 t1219 t1199).bind fun t1222 => (if t1222 = true then (some (((t1183.length : Int) == 0) == ((t1199.length : Int) == 0))) else (some false)))) else (some false)))) else (some false)) else (some false)) else (none)))) else (none))) else (none)) = some r := by first | (rw [hy1204]; with_reducible exact H) | (have H2_ := (Option.bind_some _ _).symm.trans H; rw [hy1204]; with_reducible exact H2_) | (have H2_ := (Option.bind_some _ _).symm.trans H; with_reducible exact H2_) | with_reducible exact H | (rw [hy1204]; exact H) | exact H
           have Ny1204 := Aside0.mk hy1204
           clear hy1204
           by_cases c40 : y1204.length + t1183.length < 2932031007402
           ·rw [if_pos c40] at H
            have LMc40 := Aside0.mk c40
            clear c40
            obtain ⟨y1207, hy1207⟩ : ∃ y_ : List (S131), y_ = (y1204 ++ t1183) := ⟨_, rfl⟩
            replace H : (if y1207.length + t1183.length < 2932031007402 then ((some (y1207 ++ t1183 : List (S131))).bind fun y1210 => ((spec_DrawPlaces.f k3 l0).bind fun t1213 => (if 0 < (t1213.length : Int) then (if x6_1 = x12_3 then (if x8_2 = true then ((impl_ToldBy.f k3 y1210 (Int.tmod (rd t1213 0) 3)).bind fun t1217 => ((impl_ToldBy.f k3 t1183 (Int.tmod (rd t1213 0) 3)).bind fun t1218 => (if t1217 = (wrap64 (2 * t1218)) then ((impl_PidsIn.f k3 y1210).bind fun t1219 => ((laws_sameInts.f k3 t1219 t1199).bind fun t1222 => (if t1222 = true then (some (((t1183.length : Int) == 0) == ((t1199.length : Int) == 0))) else (some false)))) else (some false)))) else (some false)) else (some false)) else (none)))) else (none)) = some r := by first | (rw [hy1207]; with_reducible exact H) | (have H2_ := (Option.bind_some _ _).symm.trans H; rw [hy1207]; with_reducible exact H2_) | (have H2_ := (Option.bind_some _ _).symm.trans H; with_reducible exact H2_) | with_reducible exact H | (rw [hy1207]; exact H) | exact H
            have Ny1207 := Aside0.mk hy1207
            clear hy1207
            by_cases c41 : y1207.length + t1183.length < 2932031007402
            ·rw [if_pos c41] at H
             have LMc41 := Aside0.mk c41
             clear c41
             obtain ⟨y1210, hy1210⟩ : ∃ y_ : List (S131), y_ = (y1207 ++ t1183) := ⟨_, rfl⟩
             replace H : ((spec_DrawPlaces.f k3 l0).bind fun t1213 => (if 0 < (t1213.length : Int) then (if x6_1 = x12_3 then (if x8_2 = true then ((impl_ToldBy.f k3 y1210 (Int.tmod (rd t1213 0) 3)).bind fun t1217 => ((impl_ToldBy.f k3 t1183 (Int.tmod (rd t1213 0) 3)).bind fun t1218 => (if t1217 = (wrap64 (2 * t1218)) then ((impl_PidsIn.f k3 y1210).bind fun t1219 => ((laws_sameInts.f k3 t1219 t1199).bind fun t1222 => (if t1222 = true then (some (((t1183.length : Int) == 0) == ((t1199.length : Int) == 0))) else (some false)))) else (some false)))) else (some false)) else (some false)) else (none))) = some r := by first | (rw [hy1210]; with_reducible exact H) | (have H2_ := (Option.bind_some _ _).symm.trans H; rw [hy1210]; with_reducible exact H2_) | (have H2_ := (Option.bind_some _ _).symm.trans H; with_reducible exact H2_) | with_reducible exact H | (rw [hy1210]; exact H) | exact H
             have Ny1210 := Aside0.mk hy1210
             clear hy1210
             replace H := Option.bind_eq_some_iff.mp H
             obtain ⟨t1213, A420, H⟩ := H
             try dsimp only at H
             have A42 := Aside0.mk A420
             clear A420
             by_cases c43 : 0 < (t1213.length : Int)
             ·rw [if_pos c43] at H
              have c43b0 : decide (0 < (t1213.length : Int)) = true := decide_eq_true c43
              have c43b1 : decide (0 < t1213.length) = true := decide_eq_true (by omega)
              clear c43
              by_cases c44 : x6_1 = x12_3
              ·rw [if_pos c44] at H
               have c44b0 : (x6_1 == x12_3) = true := beq_iff_eq.mpr c44
               have c44b1 : (x6_1 != x12_3) = false := bne_eq_false_iff_eq.mpr c44
               clear c44
               by_cases c45 : x8_2 = true
               ·subst c45
                rw [if_pos rfl] at H
                replace H := Option.bind_eq_some_iff.mp H
                obtain ⟨t1217, A460, H⟩ := H
                try dsimp only at H
                have A46 := Aside0.mk A460
                clear A460
                replace H := Option.bind_eq_some_iff.mp H
                obtain ⟨t1218, A470, H⟩ := H
                try dsimp only at H
                have A47 := Aside0.mk A470
                clear A470
                by_cases c48 : t1217 = (wrap64 (2 * t1218))
                ·rw [if_pos c48] at H
                 have c48b0 : (t1217 == (wrap64 (2 * t1218))) = true := beq_iff_eq.mpr c48
                 have c48b1 : (t1217 != (wrap64 (2 * t1218))) = false := bne_eq_false_iff_eq.mpr c48
                 clear c48
                 replace H := Option.bind_eq_some_iff.mp H
                 obtain ⟨t1219, A490, H⟩ := H
                 try dsimp only at H
                 have A49 := Aside0.mk A490
                 clear A490
                 replace H := Option.bind_eq_some_iff.mp H
                 obtain ⟨t1222, A500, H⟩ := H
                 try dsimp only at H
                 have A50 := Aside0.mk A500
                 clear A500
                 by_cases c51 : t1222 = true
                 ·subst c51
                  rw [if_pos rfl] at H
                  obtain rfl := Option.some.inj H
                  obtain ⟨Ao52, co52, eo52⟩ := Kd.R_slice HO_11.out
                  subst eo52
                  go_wp2_with (first | ((with_reducible refine gate_dst (N := 108) rfl ?_); (try (refine gate_guard (by rfl) ?_; dsimp only)); refine Kd.R_lit k131 _ 131 ?hg (N := 108) ?hd (xs := ([] : List (S131))) (inner := []) (ok := fun _ => True) (okp := fun _ => True) ?hr ?hp (fun _ hk => hk) trivial (Below.refl _ _) (Nat.le_refl _) (by simp) ?_; (case hd => rfl); (case hg => rfl); (case hr => first | (go_simp; done) | (go_simp; rfl)); (case hp => exact (Reps.none _ _)); intro v1205 w53 ho54 hb hg_ hnew_; clear hg_ hnew_; (first | rw [← Ny1204.out] at ho54 | (simp only [Int.reduceToNat] at ho54; rw [← Ny1204.out] at ho54)); have n0_ := Aside0.mk (Kd.R_elder' (ra_ HO_3.out) (Kd.R_base ho54) hb); have n1_ := Aside0.mk (Kd.R_below (ra_ HO_11.out) hb); have n2_ := Aside0.mk (Kd.R_lower (Kd.R_new' ho54 (Kd.R_lt (ra_ HO_3.out))) (below_size bl_)); have n3_ := Aside0.mk (below_step bl_ hb); clear HO_3; clear HO_11; clear HB; have HO_3 := n0_; have HO_11 := n1_; have HO1206 := n2_; have HB := n3_; clear n0_ n1_ n2_ n3_; clear hb ho54) | ((with_reducible refine gate_builtin (b := .append) (xs := #[.tmp 108, .tmp 109]) rfl ?_); (try (refine gate_guard (by rfl) ?_; dsimp only)); at_builtin; refine Kd.R_append_rows k131 (w0 := w) w.heap.size rfl (.tmp 108) (.tmp 109) 50 131 (.agg #[(.int .i64 0), (.int .i64 0), (.int .i64 0), (.int .i64 0), (.int .i64 0), (.int .i64 0)]) 48 rfl Try.underlying50 info131 rfl (by decide) (by omega) v1205 y1204 t1183 _ _ _ (fun k_ => some k_ ≠ (.slice Ao8 t1183.length co8 : Value).ownBlock) (fun _ => False) rfl rfl ?aO ?aR (fun _ _ h => h) (fun _ h => h.elim) ?aF ?aB ?aS ?aL ?_; (case aR => repeat (first | exact (Kd.R_reads' HO_3.out).2.2 | (with_reducible refine Kd.C_alloc ?_ _) | (with_reducible refine Kd.C_drewN ?_ _) | (with_reducible refine Kd.C_drew ?_))); (case aB => exact bl_); (case aF => exact (fun k_ hk => Kd.fresh' (Kd.R_lt (ra_ HO_3.out)) k_ hk)); (case aO => exact (by (with_reducible repeat (first | apply Kd.R_alloc | apply Kd.R_drewN | apply Kd.R_drew)); exact Kd.R_mono HO1206.out (fun _ hk => hk.2))); (case aS => exact (below_size bl_)); (case aL => have := LMc40.out; omega); intro v1208 w55 ho hb hg hat; rw [← Ny1207.out] at ho; have n0_ := Aside0.mk (Kd.R_after (ok := (fun _ => True)) (ra_ HO_3.out) hg hat); have n1_ := Aside0.mk (Kd.R_over' (ra_ HO_11.out) (Kd.R_typed (ra_ HO1206.out)) (by decide) hg); have n2_ := Aside0.mk (hb); have n3_ := Aside0.mk (ho); clear HO_3; clear HO_11; clear HB; clear HO1206; have HO_3 := n0_; have HO_11 := n1_; have HB := n2_; have HO1209 := n3_; clear n0_ n1_ n2_ n3_; clear ho hb hg hat) | ((with_reducible refine gate_builtin (b := .append) (xs := #[.tmp 110, .tmp 111]) rfl ?_); (try (refine gate_guard (by rfl) ?_; dsimp only)); at_builtin; refine Kd.R_append_rows k131 (w0 := w) w.heap.size rfl (.tmp 110) (.tmp 111) 50 131 (.agg #[(.int .i64 0), (.int .i64 0), (.int .i64 0), (.int .i64 0), (.int .i64 0), (.int .i64 0)]) 48 rfl Try.underlying50 info131 rfl (by decide) (by omega) v1208 y1207 t1183 _ _ _ (fun k_ => some k_ ≠ (.slice Ao8 t1183.length co8 : Value).ownBlock) (fun _ => False) rfl rfl ?aO ?aR (fun _ _ h => h) (fun _ h => h.elim) ?aF ?aB ?aS ?aL ?_; (case aR => repeat (first | exact (Kd.R_reads' HO_3.out).2.2 | (with_reducible refine Kd.C_alloc ?_ _) | (with_reducible refine Kd.C_drewN ?_ _) | (with_reducible refine Kd.C_drew ?_))); (case aB => exact bl_); (case aF => exact (fun k_ hk => Kd.fresh' (Kd.R_lt (ra_ HO_3.out)) k_ hk)); (case aO => exact (ra_ HO1209.out)); (case aS => exact (below_size bl_)); (case aL => have := LMc41.out; omega); intro v1211 w56 ho hb hg hat; rw [← Ny1210.out] at ho; have n0_ := Aside0.mk (Kd.R_after (ok := (fun _ => True)) (ra_ HO_3.out) hg hat); have n1_ := Aside0.mk (Kd.R_over' (ra_ HO_11.out) (Kd.R_typed (ra_ HO1209.out)) (by decide) hg); have n2_ := Aside0.mk (hb); have n3_ := Aside0.mk (ho); clear HO_3; clear HO_11; clear HB; clear HO1209; have HO_3 := n0_; have HO_11 := n1_; have HB := n2_; have HO1212 := n3_; clear n0_ n1_ n2_ n3_; clear ho hb hg hat) | (go_at_call 56; (with_reducible refine (spec_DrawPlaces.calls k3 _ _ l0 t1213 _ ?side1 ?side2 A42.out).mono ?_); (case side1 => repeat (first | exact (Kd.C_below HR0.out HB.out) | exact HR0.out | (with_reducible refine Kd.C_alloc ?_ _) | (with_reducible refine Kd.C_drewN ?_ _) | (with_reducible refine Kd.C_drew ?_))); (case side2 => exact HC0.out); rintro e w57 ⟨v1214, rfl, ho0, hb⟩; have n0_ := Aside0.mk (Kd.R_below (ra_ HO_3.out) hb); have n1_ := Aside0.mk (Kd.R_elder' (ra_ HO_11.out) (Kd.R_base ho0) hb); have n2_ := Aside0.mk (Kd.R_below (ra_ HO1212.out) hb); have n3_ := Aside0.mk (Kd.R_lower (Kd.R_new' ho0 (Kd.R_lt (ra_ HO_11.out))) (below_size bl_)); have n4_ := Aside0.mk (below_step bl_ hb); clear HO_3; clear HO_11; clear HO1212; clear HB; have HO_3 := n0_; have HO_11 := n1_; have HO1212 := n2_; have HO1215 := n3_; have HB := n4_; clear n0_ n1_ n2_ n3_ n4_; (try clear hb); (try clear hb2); (try clear hk); (try clear hi); (try clear ho0); obtain ⟨Ao58, co58, eo58⟩ := Kd.R_slice HO1215.out; subst eo58; have p1216 : 0 ≤ (0 : Int) := (by omega); have q1216 : 0 < (t1213.length : Int) := of_decide_eq_true as_; obtain ⟨ad1216, e1216, hx1216_0⟩ := Kd.at_int (Kd.R_reads' HO1215.out).2.2 0 p1216 q1216; cases e1216; have qi1216 : (0 < t1213.length) = True := eq_true (by omega); (try rw [show ((0 : Int)).toNat = 0 from rfl] at hx1216_0); (try rw [Addr.add_zero'] at hx1216_0); replace p1216 := eq_true p1216; replace q1216 := eq_true q1216; obtain ⟨Ao59, co59, eo59⟩ := Kd.R_slice HO1212.out; subst eo59) | (go_at_call 55; (with_reducible refine (impl_ToldBy.calls k3 _ _ y1210 (Int.tmod (rd t1213 0) 3) t1217 _ ?side1 ?side2 A46.out).mono ?_); (case side1 => repeat (first | exact (Kd.R_reads' HO1212.out).2.2 | (with_reducible refine Kd.C_alloc ?_ _) | (with_reducible refine Kd.C_drewN ?_ _) | (with_reducible refine Kd.C_drew ?_))); (case side2 => exact (Kd.R_reads' HO1212.out).2.1); rintro e w60 ⟨rfl, hb⟩; have n0_ := Aside0.mk (Kd.R_below (ra_ HO_3.out) hb); have n1_ := Aside0.mk (Kd.R_below (ra_ HO_11.out) hb); have n2_ := Aside0.mk (Kd.R_below (ra_ HO1212.out) hb); have n3_ := Aside0.mk (Kd.R_below (ra_ HO1215.out) hb); have n4_ := Aside0.mk (below_step bl_ hb); clear HO_3; clear HO_11; clear HO1212; clear HO1215; clear HB; have HO_3 := n0_; have HO_11 := n1_; have HO1212 := n2_; have HO1215 := n3_; have HB := n4_; clear n0_ n1_ n2_ n3_ n4_; (try clear hb); (try clear hb2); (try clear hk); (try clear hi)) | (go_at_call 55; (with_reducible refine (impl_ToldBy.calls k3 _ _ t1183 (Int.tmod (rd t1213 0) 3) t1218 _ ?side1 ?side2 A47.out).mono ?_); (case side1 => repeat (first | exact (Kd.R_reads' HO_3.out).2.2 | (with_reducible refine Kd.C_alloc ?_ _) | (with_reducible refine Kd.C_drewN ?_ _) | (with_reducible refine Kd.C_drew ?_))); (case side2 => exact (Kd.R_reads' HO_3.out).2.1); rintro e w61 ⟨rfl, hb⟩; have n0_ := Aside0.mk (Kd.R_below (ra_ HO_3.out) hb); have n1_ := Aside0.mk (Kd.R_below (ra_ HO_11.out) hb); have n2_ := Aside0.mk (Kd.R_below (ra_ HO1212.out) hb); have n3_ := Aside0.mk (Kd.R_below (ra_ HO1215.out) hb); have n4_ := Aside0.mk (below_step bl_ hb); clear HO_3; clear HO_11; clear HO1212; clear HO1215; clear HB; have HO_3 := n0_; have HO_11 := n1_; have HO1212 := n2_; have HO1215 := n3_; have HB := n4_; clear n0_ n1_ n2_ n3_ n4_; (try clear hb); (try clear hb2); (try clear hk); (try clear hi)) | (go_at_call 44; (with_reducible refine (impl_PidsIn.calls k3 _ _ y1210 t1219 _ ?side1 ?side2 A49.out).mono ?_); (case side1 => repeat (first | exact (Kd.R_reads' HO1212.out).2.2 | (with_reducible refine Kd.C_alloc ?_ _) | (with_reducible refine Kd.C_drewN ?_ _) | (with_reducible refine Kd.C_drew ?_))); (case side2 => exact (Kd.R_reads' HO1212.out).2.1); rintro e w62 ⟨v1220, rfl, ho0, hb⟩; have n0_ := Aside0.mk (Kd.R_below (ra_ HO_3.out) hb); have n1_ := Aside0.mk (Kd.R_elder' (ra_ HO_11.out) (Kd.R_base ho0) hb); have n2_ := Aside0.mk (Kd.R_below (ra_ HO1212.out) hb); have n3_ := Aside0.mk (Kd.R_elder' (ra_ HO1215.out) (Kd.R_base ho0) hb); have n4_ := Aside0.mk (Kd.R_lower (Kd.R_new' (Kd.R_new' ho0 (Kd.R_lt (ra_ HO_11.out))) (Kd.R_lt (ra_ HO1215.out))) (below_size bl_)); have n5_ := Aside0.mk (below_step bl_ hb); clear HO_3; clear HO_11; clear HO1212; clear HO1215; clear HB; have HO_3 := n0_; have HO_11 := n1_; have HO1212 := n2_; have HO1215 := n3_; have HO1221 := n4_; have HB := n5_; clear n0_ n1_ n2_ n3_ n4_ n5_; (try clear hb); (try clear hb2); (try clear hk); (try clear hi); (try clear ho0); obtain ⟨Ao63, co63, eo63⟩ := Kd.R_slice HO1221.out; subst eo63) | (go_at_call 57; (with_reducible refine (laws_sameInts.calls k3 _ _ t1219 _ _ t1199 true _ ?side1 ?side2 ?side3 ?side4 A50.out).mono ?_); (case side1 => repeat (first | exact (Kd.R_reads' HO1221.out).2.2 | (with_reducible refine Kd.C_alloc ?_ _) | (with_reducible refine Kd.C_drewN ?_ _) | (with_reducible refine Kd.C_drew ?_))); (case side2 => exact (Kd.R_reads' HO1221.out).2.1); (case side3 => repeat (first | exact (Kd.R_reads' HO_11.out).2.2 | (with_reducible refine Kd.C_alloc ?_ _) | (with_reducible refine Kd.C_drewN ?_ _) | (with_reducible refine Kd.C_drew ?_))); (case side4 => exact (Kd.R_reads' HO_11.out).2.1); rintro e w' ⟨rfl, ⟨nd, rfl⟩⟩; (try first | exact ⟨rfl, _, World.drewN_drewN _ _ _⟩ | exact ⟨rfl, _, Eq.trans (World.drewN_drewN _ _ _) (congrArg (World.drewN _) (Nat.add_assoc _ _ _))⟩)))
                  repeat (go_quiet (first | ((with_reducible refine gate_dst (N := 108) rfl ?_); (try (refine gate_guard (by rfl) ?_; dsimp only)); refine Kd.R_lit k131 _ 131 ?hg (N := 108) ?hd (xs := ([] : List (S131))) (inner := []) (ok := fun _ => True) (okp := fun _ => True) ?hr ?hp (fun _ hk => hk) trivial (Below.refl _ _) (Nat.le_refl _) (by simp) ?_; (case hd => rfl); (case hg => rfl); (case hr => first | (go_simp; done) | (go_simp; rfl)); (case hp => exact (Reps.none _ _)); intro v1205 w53 ho54 hb hg_ hnew_; clear hg_ hnew_; (first | rw [← Ny1204.out] at ho54 | (simp only [Int.reduceToNat] at ho54; rw [← Ny1204.out] at ho54)); have n0_ := Aside0.mk (Kd.R_elder' (ra_ HO_3.out) (Kd.R_base ho54) hb); have n1_ := Aside0.mk (Kd.R_below (ra_ HO_11.out) hb); have n2_ := Aside0.mk (Kd.R_lower (Kd.R_new' ho54 (Kd.R_lt (ra_ HO_3.out))) (below_size bl_)); have n3_ := Aside0.mk (below_step bl_ hb); clear HO_3; clear HO_11; clear HB; have HO_3 := n0_; have HO_11 := n1_; have HO1206 := n2_; have HB := n3_; clear n0_ n1_ n2_ n3_; clear hb ho54) | ((with_reducible refine gate_builtin (b := .append) (xs := #[.tmp 108, .tmp 109]) rfl ?_); (try (refine gate_guard (by rfl) ?_; dsimp only)); at_builtin; refine Kd.R_append_rows k131 (w0 := w) w.heap.size rfl (.tmp 108) (.tmp 109) 50 131 (.agg #[(.int .i64 0), (.int .i64 0), (.int .i64 0), (.int .i64 0), (.int .i64 0), (.int .i64 0)]) 48 rfl Try.underlying50 info131 rfl (by decide) (by omega) v1205 y1204 t1183 _ _ _ (fun k_ => some k_ ≠ (.slice Ao8 t1183.length co8 : Value).ownBlock) (fun _ => False) rfl rfl ?aO ?aR (fun _ _ h => h) (fun _ h => h.elim) ?aF ?aB ?aS ?aL ?_; (case aR => repeat (first | exact (Kd.R_reads' HO_3.out).2.2 | (with_reducible refine Kd.C_alloc ?_ _) | (with_reducible refine Kd.C_drewN ?_ _) | (with_reducible refine Kd.C_drew ?_))); (case aB => exact bl_); (case aF => exact (fun k_ hk => Kd.fresh' (Kd.R_lt (ra_ HO_3.out)) k_ hk)); (case aO => exact (by (with_reducible repeat (first | apply Kd.R_alloc | apply Kd.R_drewN | apply Kd.R_drew)); exact Kd.R_mono HO1206.out (fun _ hk => hk.2))); (case aS => exact (below_size bl_)); (case aL => have := LMc40.out; omega); intro v1208 w55 ho hb hg hat; rw [← Ny1207.out] at ho; have n0_ := Aside0.mk (Kd.R_after (ok := (fun _ => True)) (ra_ HO_3.out) hg hat); have n1_ := Aside0.mk (Kd.R_over' (ra_ HO_11.out) (Kd.R_typed (ra_ HO1206.out)) (by decide) hg); have n2_ := Aside0.mk (hb); have n3_ := Aside0.mk (ho); clear HO_3; clear HO_11; clear HB; clear HO1206; have HO_3 := n0_; have HO_11 := n1_; have HB := n2_; have HO1209 := n3_; clear n0_ n1_ n2_ n3_; clear ho hb hg hat) | ((with_reducible refine gate_builtin (b := .append) (xs := #[.tmp 110, .tmp 111]) rfl ?_); (try (refine gate_guard (by rfl) ?_; dsimp only)); at_builtin; refine Kd.R_append_rows k131 (w0 := w) w.heap.size rfl (.tmp 110) (.tmp 111) 50 131 (.agg #[(.int .i64 0), (.int .i64 0), (.int .i64 0), (.int .i64 0), (.int .i64 0), (.int .i64 0)]) 48 rfl Try.underlying50 info131 rfl (by decide) (by omega) v1208 y1207 t1183 _ _ _ (fun k_ => some k_ ≠ (.slice Ao8 t1183.length co8 : Value).ownBlock) (fun _ => False) rfl rfl ?aO ?aR (fun _ _ h => h) (fun _ h => h.elim) ?aF ?aB ?aS ?aL ?_; (case aR => repeat (first | exact (Kd.R_reads' HO_3.out).2.2 | (with_reducible refine Kd.C_alloc ?_ _) | (with_reducible refine Kd.C_drewN ?_ _) | (with_reducible refine Kd.C_drew ?_))); (case aB => exact bl_); (case aF => exact (fun k_ hk => Kd.fresh' (Kd.R_lt (ra_ HO_3.out)) k_ hk)); (case aO => exact (ra_ HO1209.out)); (case aS => exact (below_size bl_)); (case aL => have := LMc41.out; omega); intro v1211 w56 ho hb hg hat; rw [← Ny1210.out] at ho; have n0_ := Aside0.mk (Kd.R_after (ok := (fun _ => True)) (ra_ HO_3.out) hg hat); have n1_ := Aside0.mk (Kd.R_over' (ra_ HO_11.out) (Kd.R_typed (ra_ HO1209.out)) (by decide) hg); have n2_ := Aside0.mk (hb); have n3_ := Aside0.mk (ho); clear HO_3; clear HO_11; clear HB; clear HO1209; have HO_3 := n0_; have HO_11 := n1_; have HB := n2_; have HO1212 := n3_; clear n0_ n1_ n2_ n3_; clear ho hb hg hat) | (go_at_call 56; (with_reducible refine (spec_DrawPlaces.calls k3 _ _ l0 t1213 _ ?side1 ?side2 A42.out).mono ?_); (case side1 => repeat (first | exact (Kd.C_below HR0.out HB.out) | exact HR0.out | (with_reducible refine Kd.C_alloc ?_ _) | (with_reducible refine Kd.C_drewN ?_ _) | (with_reducible refine Kd.C_drew ?_))); (case side2 => exact HC0.out); rintro e w57 ⟨v1214, rfl, ho0, hb⟩; have n0_ := Aside0.mk (Kd.R_below (ra_ HO_3.out) hb); have n1_ := Aside0.mk (Kd.R_elder' (ra_ HO_11.out) (Kd.R_base ho0) hb); have n2_ := Aside0.mk (Kd.R_below (ra_ HO1212.out) hb); have n3_ := Aside0.mk (Kd.R_lower (Kd.R_new' ho0 (Kd.R_lt (ra_ HO_11.out))) (below_size bl_)); have n4_ := Aside0.mk (below_step bl_ hb); clear HO_3; clear HO_11; clear HO1212; clear HB; have HO_3 := n0_; have HO_11 := n1_; have HO1212 := n2_; have HO1215 := n3_; have HB := n4_; clear n0_ n1_ n2_ n3_ n4_; (try clear hb); (try clear hb2); (try clear hk); (try clear hi); (try clear ho0); obtain ⟨Ao58, co58, eo58⟩ := Kd.R_slice HO1215.out; subst eo58; have p1216 : 0 ≤ (0 : Int) := (by omega); have q1216 : 0 < (t1213.length : Int) := of_decide_eq_true as_; obtain ⟨ad1216, e1216, hx1216_0⟩ := Kd.at_int (Kd.R_reads' HO1215.out).2.2 0 p1216 q1216; cases e1216; have qi1216 : (0 < t1213.length) = True := eq_true (by omega); (try rw [show ((0 : Int)).toNat = 0 from rfl] at hx1216_0); (try rw [Addr.add_zero'] at hx1216_0); replace p1216 := eq_true p1216; replace q1216 := eq_true q1216; obtain ⟨Ao59, co59, eo59⟩ := Kd.R_slice HO1212.out; subst eo59) | (go_at_call 55; (with_reducible refine (impl_ToldBy.calls k3 _ _ y1210 (Int.tmod (rd t1213 0) 3) t1217 _ ?side1 ?side2 A46.out).mono ?_); (case side1 => repeat (first | exact (Kd.R_reads' HO1212.out).2.2 | (with_reducible refine Kd.C_alloc ?_ _) | (with_reducible refine Kd.C_drewN ?_ _) | (with_reducible refine Kd.C_drew ?_))); (case side2 => exact (Kd.R_reads' HO1212.out).2.1); rintro e w60 ⟨rfl, hb⟩; have n0_ := Aside0.mk (Kd.R_below (ra_ HO_3.out) hb); have n1_ := Aside0.mk (Kd.R_below (ra_ HO_11.out) hb); have n2_ := Aside0.mk (Kd.R_below (ra_ HO1212.out) hb); have n3_ := Aside0.mk (Kd.R_below (ra_ HO1215.out) hb); have n4_ := Aside0.mk (below_step bl_ hb); clear HO_3; clear HO_11; clear HO1212; clear HO1215; clear HB; have HO_3 := n0_; have HO_11 := n1_; have HO1212 := n2_; have HO1215 := n3_; have HB := n4_; clear n0_ n1_ n2_ n3_ n4_; (try clear hb); (try clear hb2); (try clear hk); (try clear hi)) | (go_at_call 55; (with_reducible refine (impl_ToldBy.calls k3 _ _ t1183 (Int.tmod (rd t1213 0) 3) t1218 _ ?side1 ?side2 A47.out).mono ?_); (case side1 => repeat (first | exact (Kd.R_reads' HO_3.out).2.2 | (with_reducible refine Kd.C_alloc ?_ _) | (with_reducible refine Kd.C_drewN ?_ _) | (with_reducible refine Kd.C_drew ?_))); (case side2 => exact (Kd.R_reads' HO_3.out).2.1); rintro e w61 ⟨rfl, hb⟩; have n0_ := Aside0.mk (Kd.R_below (ra_ HO_3.out) hb); have n1_ := Aside0.mk (Kd.R_below (ra_ HO_11.out) hb); have n2_ := Aside0.mk (Kd.R_below (ra_ HO1212.out) hb); have n3_ := Aside0.mk (Kd.R_below (ra_ HO1215.out) hb); have n4_ := Aside0.mk (below_step bl_ hb); clear HO_3; clear HO_11; clear HO1212; clear HO1215; clear HB; have HO_3 := n0_; have HO_11 := n1_; have HO1212 := n2_; have HO1215 := n3_; have HB := n4_; clear n0_ n1_ n2_ n3_ n4_; (try clear hb); (try clear hb2); (try clear hk); (try clear hi)) | (go_at_call 44; (with_reducible refine (impl_PidsIn.calls k3 _ _ y1210 t1219 _ ?side1 ?side2 A49.out).mono ?_); (case side1 => repeat (first | exact (Kd.R_reads' HO1212.out).2.2 | (with_reducible refine Kd.C_alloc ?_ _) | (with_reducible refine Kd.C_drewN ?_ _) | (with_reducible refine Kd.C_drew ?_))); (case side2 => exact (Kd.R_reads' HO1212.out).2.1); rintro e w62 ⟨v1220, rfl, ho0, hb⟩; have n0_ := Aside0.mk (Kd.R_below (ra_ HO_3.out) hb); have n1_ := Aside0.mk (Kd.R_elder' (ra_ HO_11.out) (Kd.R_base ho0) hb); have n2_ := Aside0.mk (Kd.R_below (ra_ HO1212.out) hb); have n3_ := Aside0.mk (Kd.R_elder' (ra_ HO1215.out) (Kd.R_base ho0) hb); have n4_ := Aside0.mk (Kd.R_lower (Kd.R_new' (Kd.R_new' ho0 (Kd.R_lt (ra_ HO_11.out))) (Kd.R_lt (ra_ HO1215.out))) (below_size bl_)); have n5_ := Aside0.mk (below_step bl_ hb); clear HO_3; clear HO_11; clear HO1212; clear HO1215; clear HB; have HO_3 := n0_; have HO_11 := n1_; have HO1212 := n2_; have HO1215 := n3_; have HO1221 := n4_; have HB := n5_; clear n0_ n1_ n2_ n3_ n4_ n5_; (try clear hb); (try clear hb2); (try clear hk); (try clear hi); (try clear ho0); obtain ⟨Ao63, co63, eo63⟩ := Kd.R_slice HO1221.out; subst eo63) | (go_at_call 57; (with_reducible refine (laws_sameInts.calls k3 _ _ t1219 _ _ t1199 true _ ?side1 ?side2 ?side3 ?side4 A50.out).mono ?_); (case side1 => repeat (first | exact (Kd.R_reads' HO1221.out).2.2 | (with_reducible refine Kd.C_alloc ?_ _) | (with_reducible refine Kd.C_drewN ?_ _) | (with_reducible refine Kd.C_drew ?_))); (case side2 => exact (Kd.R_reads' HO1221.out).2.1); (case side3 => repeat (first | exact (Kd.R_reads' HO_11.out).2.2 | (with_reducible refine Kd.C_alloc ?_ _) | (with_reducible refine Kd.C_drewN ?_ _) | (with_reducible refine Kd.C_drew ?_))); (case side4 => exact (Kd.R_reads' HO_11.out).2.1); rintro e w' ⟨rfl, ⟨nd, rfl⟩⟩; (try first | exact ⟨rfl, _, World.drewN_drewN _ _ _⟩ | exact ⟨rfl, _, Eq.trans (World.drewN_drewN _ _ _) (congrArg (World.drewN _) (Nat.add_assoc _ _ _))⟩))); try go_wp2_with (first | ((with_reducible refine gate_dst (N := 108) rfl ?_); (try (refine gate_guard (by rfl) ?_; dsimp only)); refine Kd.R_lit k131 _ 131 ?hg (N := 108) ?hd (xs := ([] : List (S131))) (inner := []) (ok := fun _ => True) (okp := fun _ => True) ?hr ?hp (fun _ hk => hk) trivial (Below.refl _ _) (Nat.le_refl _) (by simp) ?_; (case hd => rfl); (case hg => rfl); (case hr => first | (go_simp; done) | (go_simp; rfl)); (case hp => exact (Reps.none _ _)); intro v1205 w53 ho54 hb hg_ hnew_; clear hg_ hnew_; (first | rw [← Ny1204.out] at ho54 | (simp only [Int.reduceToNat] at ho54; rw [← Ny1204.out] at ho54)); have n0_ := Aside0.mk (Kd.R_elder' (ra_ HO_3.out) (Kd.R_base ho54) hb); have n1_ := Aside0.mk (Kd.R_below (ra_ HO_11.out) hb); have n2_ := Aside0.mk (Kd.R_lower (Kd.R_new' ho54 (Kd.R_lt (ra_ HO_3.out))) (below_size bl_)); have n3_ := Aside0.mk (below_step bl_ hb); clear HO_3; clear HO_11; clear HB; have HO_3 := n0_; have HO_11 := n1_; have HO1206 := n2_; have HB := n3_; clear n0_ n1_ n2_ n3_; clear hb ho54) | ((with_reducible refine gate_builtin (b := .append) (xs := #[.tmp 108, .tmp 109]) rfl ?_); (try (refine gate_guard (by rfl) ?_; dsimp only)); at_builtin; refine Kd.R_append_rows k131 (w0 := w) w.heap.size rfl (.tmp 108) (.tmp 109) 50 131 (.agg #[(.int .i64 0), (.int .i64 0), (.int .i64 0), (.int .i64 0), (.int .i64 0), (.int .i64 0)]) 48 rfl Try.underlying50 info131 rfl (by decide) (by omega) v1205 y1204 t1183 _ _ _ (fun k_ => some k_ ≠ (.slice Ao8 t1183.length co8 : Value).ownBlock) (fun _ => False) rfl rfl ?aO ?aR (fun _ _ h => h) (fun _ h => h.elim) ?aF ?aB ?aS ?aL ?_; (case aR => repeat (first | exact (Kd.R_reads' HO_3.out).2.2 | (with_reducible refine Kd.C_alloc ?_ _) | (with_reducible refine Kd.C_drewN ?_ _) | (with_reducible refine Kd.C_drew ?_))); (case aB => exact bl_); (case aF => exact (fun k_ hk => Kd.fresh' (Kd.R_lt (ra_ HO_3.out)) k_ hk)); (case aO => exact (by (with_reducible repeat (first | apply Kd.R_alloc | apply Kd.R_drewN | apply Kd.R_drew)); exact Kd.R_mono HO1206.out (fun _ hk => hk.2))); (case aS => exact (below_size bl_)); (case aL => have := LMc40.out; omega); intro v1208 w55 ho hb hg hat; rw [← Ny1207.out] at ho; have n0_ := Aside0.mk (Kd.R_after (ok := (fun _ => True)) (ra_ HO_3.out) hg hat); have n1_ := Aside0.mk (Kd.R_over' (ra_ HO_11.out) (Kd.R_typed (ra_ HO1206.out)) (by decide) hg); have n2_ := Aside0.mk (hb); have n3_ := Aside0.mk (ho); clear HO_3; clear HO_11; clear HB; clear HO1206; have HO_3 := n0_; have HO_11 := n1_; have HB := n2_; have HO1209 := n3_; clear n0_ n1_ n2_ n3_; clear ho hb hg hat) | ((with_reducible refine gate_builtin (b := .append) (xs := #[.tmp 110, .tmp 111]) rfl ?_); (try (refine gate_guard (by rfl) ?_; dsimp only)); at_builtin; refine Kd.R_append_rows k131 (w0 := w) w.heap.size rfl (.tmp 110) (.tmp 111) 50 131 (.agg #[(.int .i64 0), (.int .i64 0), (.int .i64 0), (.int .i64 0), (.int .i64 0), (.int .i64 0)]) 48 rfl Try.underlying50 info131 rfl (by decide) (by omega) v1208 y1207 t1183 _ _ _ (fun k_ => some k_ ≠ (.slice Ao8 t1183.length co8 : Value).ownBlock) (fun _ => False) rfl rfl ?aO ?aR (fun _ _ h => h) (fun _ h => h.elim) ?aF ?aB ?aS ?aL ?_; (case aR => repeat (first | exact (Kd.R_reads' HO_3.out).2.2 | (with_reducible refine Kd.C_alloc ?_ _) | (with_reducible refine Kd.C_drewN ?_ _) | (with_reducible refine Kd.C_drew ?_))); (case aB => exact bl_); (case aF => exact (fun k_ hk => Kd.fresh' (Kd.R_lt (ra_ HO_3.out)) k_ hk)); (case aO => exact (ra_ HO1209.out)); (case aS => exact (below_size bl_)); (case aL => have := LMc41.out; omega); intro v1211 w56 ho hb hg hat; rw [← Ny1210.out] at ho; have n0_ := Aside0.mk (Kd.R_after (ok := (fun _ => True)) (ra_ HO_3.out) hg hat); have n1_ := Aside0.mk (Kd.R_over' (ra_ HO_11.out) (Kd.R_typed (ra_ HO1209.out)) (by decide) hg); have n2_ := Aside0.mk (hb); have n3_ := Aside0.mk (ho); clear HO_3; clear HO_11; clear HB; clear HO1209; have HO_3 := n0_; have HO_11 := n1_; have HB := n2_; have HO1212 := n3_; clear n0_ n1_ n2_ n3_; clear ho hb hg hat) | (go_at_call 56; (with_reducible refine (spec_DrawPlaces.calls k3 _ _ l0 t1213 _ ?side1 ?side2 A42.out).mono ?_); (case side1 => repeat (first | exact (Kd.C_below HR0.out HB.out) | exact HR0.out | (with_reducible refine Kd.C_alloc ?_ _) | (with_reducible refine Kd.C_drewN ?_ _) | (with_reducible refine Kd.C_drew ?_))); (case side2 => exact HC0.out); rintro e w57 ⟨v1214, rfl, ho0, hb⟩; have n0_ := Aside0.mk (Kd.R_below (ra_ HO_3.out) hb); have n1_ := Aside0.mk (Kd.R_elder' (ra_ HO_11.out) (Kd.R_base ho0) hb); have n2_ := Aside0.mk (Kd.R_below (ra_ HO1212.out) hb); have n3_ := Aside0.mk (Kd.R_lower (Kd.R_new' ho0 (Kd.R_lt (ra_ HO_11.out))) (below_size bl_)); have n4_ := Aside0.mk (below_step bl_ hb); clear HO_3; clear HO_11; clear HO1212; clear HB; have HO_3 := n0_; have HO_11 := n1_; have HO1212 := n2_; have HO1215 := n3_; have HB := n4_; clear n0_ n1_ n2_ n3_ n4_; (try clear hb); (try clear hb2); (try clear hk); (try clear hi); (try clear ho0); obtain ⟨Ao58, co58, eo58⟩ := Kd.R_slice HO1215.out; subst eo58; have p1216 : 0 ≤ (0 : Int) := (by omega); have q1216 : 0 < (t1213.length : Int) := of_decide_eq_true as_; obtain ⟨ad1216, e1216, hx1216_0⟩ := Kd.at_int (Kd.R_reads' HO1215.out).2.2 0 p1216 q1216; cases e1216; have qi1216 : (0 < t1213.length) = True := eq_true (by omega); (try rw [show ((0 : Int)).toNat = 0 from rfl] at hx1216_0); (try rw [Addr.add_zero'] at hx1216_0); replace p1216 := eq_true p1216; replace q1216 := eq_true q1216; obtain ⟨Ao59, co59, eo59⟩ := Kd.R_slice HO1212.out; subst eo59) | (go_at_call 55; (with_reducible refine (impl_ToldBy.calls k3 _ _ y1210 (Int.tmod (rd t1213 0) 3) t1217 _ ?side1 ?side2 A46.out).mono ?_); (case side1 => repeat (first | exact (Kd.R_reads' HO1212.out).2.2 | (with_reducible refine Kd.C_alloc ?_ _) | (with_reducible refine Kd.C_drewN ?_ _) | (with_reducible refine Kd.C_drew ?_))); (case side2 => exact (Kd.R_reads' HO1212.out).2.1); rintro e w60 ⟨rfl, hb⟩; have n0_ := Aside0.mk (Kd.R_below (ra_ HO_3.out) hb); have n1_ := Aside0.mk (Kd.R_below (ra_ HO_11.out) hb); have n2_ := Aside0.mk (Kd.R_below (ra_ HO1212.out) hb); have n3_ := Aside0.mk (Kd.R_below (ra_ HO1215.out) hb); have n4_ := Aside0.mk (below_step bl_ hb); clear HO_3; clear HO_11; clear HO1212; clear HO1215; clear HB; have HO_3 := n0_; have HO_11 := n1_; have HO1212 := n2_; have HO1215 := n3_; have HB := n4_; clear n0_ n1_ n2_ n3_ n4_; (try clear hb); (try clear hb2); (try clear hk); (try clear hi)) | (go_at_call 55; (with_reducible refine (impl_ToldBy.calls k3 _ _ t1183 (Int.tmod (rd t1213 0) 3) t1218 _ ?side1 ?side2 A47.out).mono ?_); (case side1 => repeat (first | exact (Kd.R_reads' HO_3.out).2.2 | (with_reducible refine Kd.C_alloc ?_ _) | (with_reducible refine Kd.C_drewN ?_ _) | (with_reducible refine Kd.C_drew ?_))); (case side2 => exact (Kd.R_reads' HO_3.out).2.1); rintro e w61 ⟨rfl, hb⟩; have n0_ := Aside0.mk (Kd.R_below (ra_ HO_3.out) hb); have n1_ := Aside0.mk (Kd.R_below (ra_ HO_11.out) hb); have n2_ := Aside0.mk (Kd.R_below (ra_ HO1212.out) hb); have n3_ := Aside0.mk (Kd.R_below (ra_ HO1215.out) hb); have n4_ := Aside0.mk (below_step bl_ hb); clear HO_3; clear HO_11; clear HO1212; clear HO1215; clear HB; have HO_3 := n0_; have HO_11 := n1_; have HO1212 := n2_; have HO1215 := n3_; have HB := n4_; clear n0_ n1_ n2_ n3_ n4_; (try clear hb); (try clear hb2); (try clear hk); (try clear hi)) | (go_at_call 44; (with_reducible refine (impl_PidsIn.calls k3 _ _ y1210 t1219 _ ?side1 ?side2 A49.out).mono ?_); (case side1 => repeat (first | exact (Kd.R_reads' HO1212.out).2.2 | (with_reducible refine Kd.C_alloc ?_ _) | (with_reducible refine Kd.C_drewN ?_ _) | (with_reducible refine Kd.C_drew ?_))); (case side2 => exact (Kd.R_reads' HO1212.out).2.1); rintro e w62 ⟨v1220, rfl, ho0, hb⟩; have n0_ := Aside0.mk (Kd.R_below (ra_ HO_3.out) hb); have n1_ := Aside0.mk (Kd.R_elder' (ra_ HO_11.out) (Kd.R_base ho0) hb); have n2_ := Aside0.mk (Kd.R_below (ra_ HO1212.out) hb); have n3_ := Aside0.mk (Kd.R_elder' (ra_ HO1215.out) (Kd.R_base ho0) hb); have n4_ := Aside0.mk (Kd.R_lower (Kd.R_new' (Kd.R_new' ho0 (Kd.R_lt (ra_ HO_11.out))) (Kd.R_lt (ra_ HO1215.out))) (below_size bl_)); have n5_ := Aside0.mk (below_step bl_ hb); clear HO_3; clear HO_11; clear HO1212; clear HO1215; clear HB; have HO_3 := n0_; have HO_11 := n1_; have HO1212 := n2_; have HO1215 := n3_; have HO1221 := n4_; have HB := n5_; clear n0_ n1_ n2_ n3_ n4_ n5_; (try clear hb); (try clear hb2); (try clear hk); (try clear hi); (try clear ho0); obtain ⟨Ao63, co63, eo63⟩ := Kd.R_slice HO1221.out; subst eo63) | (go_at_call 57; (with_reducible refine (laws_sameInts.calls k3 _ _ t1219 _ _ t1199 true _ ?side1 ?side2 ?side3 ?side4 A50.out).mono ?_); (case side1 => repeat (first | exact (Kd.R_reads' HO1221.out).2.2 | (with_reducible refine Kd.C_alloc ?_ _) | (with_reducible refine Kd.C_drewN ?_ _) | (with_reducible refine Kd.C_drew ?_))); (case side2 => exact (Kd.R_reads' HO1221.out).2.1); (case side3 => repeat (first | exact (Kd.R_reads' HO_11.out).2.2 | (with_reducible refine Kd.C_alloc ?_ _) | (with_reducible refine Kd.C_drewN ?_ _) | (with_reducible refine Kd.C_drew ?_))); (case side4 => exact (Kd.R_reads' HO_11.out).2.1); rintro e w' ⟨rfl, ⟨nd, rfl⟩⟩; (try first | exact ⟨rfl, _, World.drewN_drewN _ _ _⟩ | exact ⟨rfl, _, Eq.trans (World.drewN_drewN _ _ _) (congrArg (World.drewN _) (Nat.add_assoc _ _ _))⟩))))
                  go_ret
                  exact ⟨by first | rfl | (simp [errW_none, errW_some] <;> rfl) | (simp [*, errW_none, errW_some] <;> rfl) | exact False.elim (Bool.noConfusion ((decide_eq_true (of_eq_true (by assumption))).symm.trans (by assumption))), bl_⟩
                 ·replace c51 := Bool.eq_false_iff.mpr c51
                  subst c51
                  rw [if_neg (show ¬ (false = true) by decide)] at H
                  exact absurd ((Option.some.inj H).trans HR1.out) (by decide)
                ·rw [if_neg c48] at H
                 have c48b0 : (t1217 == (wrap64 (2 * t1218))) = false := beq_eq_false_iff_ne.mpr c48
                 have c48b1 : (t1217 != (wrap64 (2 * t1218))) = true := bne_iff_ne.mpr c48
                 exact absurd ((Option.some.inj H).trans HR1.out) (by decide)
               ·replace c45 := Bool.eq_false_iff.mpr c45
                subst c45
                rw [if_neg (show ¬ (false = true) by decide)] at H
                exact absurd ((Option.some.inj H).trans HR1.out) (by decide)
              ·rw [if_neg c44] at H
               have c44b0 : (x6_1 == x12_3) = false := beq_eq_false_iff_ne.mpr c44
               have c44b1 : (x6_1 != x12_3) = true := bne_iff_ne.mpr c44
               exact absurd ((Option.some.inj H).trans HR1.out) (by decide)
             ·rw [if_neg c43] at H
              exact absurd H (by simp)
            ·rw [if_neg c41] at H
             exact absurd H (by simp)
           ·rw [if_neg c40] at H
            exact absurd H (by simp)

/-- THE ONE PURE STATEMENT of laws_FnCounts: yours. -/
def laws_FnCounts.Pure : Prop := ∀ (l0 : List Int), l0.length ≤ maxLen → l0.length * 1 ≤ 140737488351232 → (∀ x ∈ l0, (Lit.int .u8 x).wf = true) → ∃ k, laws_FnCounts.f k l0 = some true
theorem laws_FnCounts.walk (P : laws_FnCounts.Pure) (a0 : Option Addr) (len0 cap0 : Nat) (z0 : List Int) (w : World) (w0 : (a0 = none ∧ len0 = 0 ∧ cap0 = 0 ∧ z0 = []) ∨ ∃ x, a0 = some x ∧ len0 ≤ cap0 ∧ cap0 ≤ maxLen ∧ z0.length = cap0 ∧ (∀ i, i < z0.length → w.cell? (x.add i) = some (.int .u8 (z0.getD i 0))) ∧ ∀ n ∈ z0, (Lit.int .u8 n).wf = true) (y0 : len0 * 1 ≤ 140737488351232) :
 Calls Try.prog 10 #[.slice a0 len0 cap0] w fun e w' => e = .returned (.bool true) ∧ Below w.heap.size w w' := by
 obtain ⟨l0, rfl, hr0, hm0, hw0, hc0⟩ := ReadsInt.ofRowC w0
 obtain ⟨k, h⟩ := P l0 hm0 y0 hw0
 refine (laws_FnCounts.calls k _ _ l0 true w (Kd.C_of_reads (d := (0 : Int)) (h1 := fun _ => rfl) hr0) hc0 rfl h).mono ?_
 rintro e w' ⟨rfl, hd⟩
 exact ⟨rfl, hd⟩

end Go.Proofs.Ytmjlhikflhbdaaa.PA

namespace Go.Proofs.Ytmjlhikflhbdaaa.Kit
open Go.RowKit Go.Proofs.YtmjlhikflhbdaaaW.PrintWords Go.Proofs.YtmjlhikflhbdaaaW.PrintLast Go.Proofs.YtmjlhikflhbdaaaW.PrintMore
set_option linter.unusedVariables false
set_option linter.unusedSimpArgs false

theorem w64 {x : Int} (h0 : -9223372036854775808 ≤ x) (h1 : x ≤ 9223372036854775807) : wrap64 x = x := by unfold wrap64; omega

section
variable {α β : Type}
theorem evSucc {g : Nat → Option α} {r : α} (h : Ev (fun k => g (k + 1)) r) : Ev g r := Ev.step (fun _ => rfl) h
theorem evPos {c : Prop} [Decidable c] {g f : Nat → Option α} {r : α} (hc : c) (h : Ev g r) : Ev (fun k => if c then g k else f k) r := Ev.congr (fun k => if_pos hc) h
theorem evNeg {c : Prop} [Decidable c] {g f : Nat → Option α} {r : α} (hc : ¬ c) (h : Ev f r) : Ev (fun k => if c then g k else f k) r := Ev.congr (fun k => if_neg hc) h
theorem evIte {c : Prop} [Decidable c] {g f : Nat → Option α} {r s : α} (h : c → Ev g r) (h' : ¬ c → Ev f s) : Ev (fun k => if c then g k else f k) (if c then r else s) := by
 by_cases hc : c
 ·rw [if_pos hc]; exact evPos hc (h hc)
 ·rw [if_neg hc]; exact evNeg hc (h' hc)
theorem evSome (r : α) : Ev (fun _ => some r) r := Ev.now r
theorem evEq {g : Nat → Option α} {r s : α} (h : Ev g r) (e : r = s) : Ev g s := e ▸ h
/-- A value that needs no rounds. -/
theorem evBindS {x : Option α} {f : Nat → α → Option β} {a : α} {r : β} (h : x = some a) (k : Ev (fun n => f n a) r) : Ev (fun n => x.bind (f n)) r := by subst h; exact k
theorem evConst {x : Option α} {r : α} (h : x = some r) : Ev (fun _ => x) r := by subst h; exact Ev.now r
end

section
variable {α β : Type}
/-- A loop that counts up: from the last place back to the first. -/
theorem evUp {r : α} (n : Nat) (g : Nat → Nat → Option α) (step : ∀ i, i < n → Ev (g (i + 1)) r → Ev (g i) r) (last : Ev (g n) r) : Ev (g 0) r := by
 have key : ∀ d i, i + d = n → Ev (g i) r := by
  intro d
  induction d with
  | zero => intro i hi; rw [show i = n by omega]; exact last
  | succ d ih => intro i hi; exact step i (by omega) (ih (i + 1) (by omega))
 exact key n 0 (by omega)
theorem fillStep (f : α → β) (z : β) (l : List α) (i : Nat) (hi : i < l.length) :
 ((l.take i).map f ++ List.replicate (l.length - i) z).set i (f l[i]) = (l.take (i + 1)).map f ++ List.replicate (l.length - (i + 1)) z := by
 have h1 : ((l.take i).map f).length = i := by simp; omega
 rw [show l.length - i = (l.length - (i + 1)) + 1 by omega, List.replicate_succ, List.set_append_right _ _ (by omega), h1, Nat.sub_self, List.set_cons_zero,
  List.take_succ_eq_append_getElem hi, List.map_append, List.append_assoc]
 rfl
theorem takeSnoc (l : List α) (i : Nat) (hi : i < l.length) : l.take (i + 1) = l.take i ++ [l[i]] := List.take_succ_eq_append_getElem hi
theorem ci (i : Nat) : (i : Int) + 1 = ((i + 1 : Nat) : Int) := by omega
theorem sizeApp (a b : ByteArray) : (a ++ b).size = a.size + b.size := ByteArray.size_append
end

theorem okI64 {n : Int} (h : (Lit.int .i64 n).wf = true) : -9223372036854775808 ≤ n ∧ n ≤ 9223372036854775807 := by
 simp [Lit.wf, IntKind.min, IntKind.max, IntKind.signed, IntKind.bits] at h
 omega
end Go.Proofs.Ytmjlhikflhbdaaa.Kit

namespace Go.Proofs.Ytmjlhikflhbdaaa.Pure
open Go.RowKit Go.Proofs.Ytmjlhikflhbdaaa.PA Go.Proofs.YtmjlhikflhbdaaaW.PrintWords Go.Proofs.YtmjlhikflhbdaaaW.PrintLast Go.Proofs.YtmjlhikflhbdaaaW.PrintMore Go.Proofs.Ytmjlhikflhbdaaa.Kit
set_option linter.unusedVariables false
set_option linter.unusedSimpArgs false
theorem rdE (l : List S131) (i : Nat) (hi : i < l.length) : rd_T131 l (i : Int) = l[i] := by simp [rd_T131, hi]
def StrictS (l : List Int) : Prop := l.Pairwise (· < ·)
theorem strict_eq : ∀ (a b : List Int), StrictS a → StrictS b → (∀ x, x ∈ a ↔ x ∈ b) → a = b := by
 intro a
 induction a with
 | nil =>
  intro b _ _ h
  cases b with
  | nil => rfl
  | cons y b => exact absurd ((h y).2 (List.mem_cons_self ..)) (List.not_mem_nil)
 | cons x a ih =>
  intro b ha hb h
  cases b with
  | nil => exact absurd ((h x).1 (List.mem_cons_self ..)) (List.not_mem_nil)
  | cons y b =>
   have ha' := List.pairwise_cons.1 ha
   have hb' := List.pairwise_cons.1 hb
   have hxy : x = y := by
    rcases List.mem_cons.1 ((h x).1 (List.mem_cons_self ..)) with e | e
    ·exact e
    ·rcases List.mem_cons.1 ((h y).2 (List.mem_cons_self ..)) with e2 | e2
     ·exact e2.symm
     ·have h1 := hb'.1 x e
      have h2 := ha'.1 y e2
      omega
   subst hxy
   rw [ih b ha'.2 hb'.2 (fun z => ?_)]
   constructor
   ·intro hz
    rcases List.mem_cons.1 ((h z).1 (List.mem_cons_of_mem _ hz)) with e | e
    ·have := ha'.1 z hz; omega
    ·exact e
   ·intro hz
    rcases List.mem_cons.1 ((h z).2 (List.mem_cons_of_mem _ hz)) with e | e
    ·have := hb'.1 z hz; omega
    ·exact e
def insS (x : Int) : List Int → List Int
 | [] => [x]
 | y :: l => if x < y then x :: y :: l else y :: insS x l
theorem insS_mem (x : Int) : ∀ l z, z ∈ insS x l ↔ z = x ∨ z ∈ l := by
 intro l
 induction l with
 | nil => intro z; simp [insS]
 | cons y l ih =>
  intro z
  unfold insS
  split
  ·rw [List.mem_cons]
  ·rw [List.mem_cons, ih z, List.mem_cons]
   constructor
   ·rintro (e | e | e)
    ·exact Or.inr (Or.inl e)
    ·exact Or.inl e
    ·exact Or.inr (Or.inr e)
   ·rintro (e | e | e)
    ·exact Or.inr (Or.inl e)
    ·exact Or.inl e
    ·exact Or.inr (Or.inr e)
theorem insS_strict (x : Int) : ∀ l, StrictS l → x ∉ l → StrictS (insS x l) := by
 intro l
 induction l with
 | nil => intro _ _; exact List.pairwise_singleton _ _
 | cons y l ih =>
  intro h hx
  have h' := List.pairwise_cons.1 h
  unfold insS
  split
  ·rename_i hlt
   refine List.pairwise_cons.2 ⟨fun z hz => ?_, h⟩
   rcases List.mem_cons.1 hz with e | e
   ·omega
   ·have := h'.1 z e; omega
  ·rename_i hlt
   refine List.pairwise_cons.2 ⟨fun z hz => ?_, ih h'.2 (fun e => hx (List.mem_cons_of_mem _ e))⟩
   rcases (insS_mem x l z).1 hz with e | e
   ·have : x ≠ y := fun e2 => hx (by rw [e2]; exact List.mem_cons_self ..)
    omega
   ·exact h'.1 z e
theorem insS_len (x : Int) : ∀ l, (insS x l).length = l.length + 1 := by
 intro l
 induction l with
 | nil => rfl
 | cons y l ih =>
  unfold insS
  split
  ·rfl
  ·rw [List.length_cons, ih, List.length_cons]
def putAll : List Int → List Int → List Int
 | [], acc => acc
 | x :: l, acc => putAll l (if x ∈ acc then acc else insS x acc)
theorem putAll_law : ∀ l acc, StrictS acc → StrictS (putAll l acc) ∧ ∀ z, z ∈ putAll l acc ↔ z ∈ acc ∨ z ∈ l := by
 intro l
 induction l with
 | nil => intro acc h; exact ⟨h, fun z => by simp [putAll]⟩
 | cons x l ih =>
  intro acc h
  unfold putAll
  by_cases hx : x ∈ acc
  ·rw [if_pos hx]
   obtain ⟨h1, h2⟩ := ih acc h
   refine ⟨h1, fun z => ?_⟩
   rw [h2 z, List.mem_cons]
   constructor
   ·rintro (e | e)
    ·exact Or.inl e
    ·exact Or.inr (Or.inr e)
   ·rintro (e | e | e)
    ·exact Or.inl e
    ·rw [e]; exact Or.inl hx
    ·exact Or.inr e
  ·rw [if_neg hx]
   obtain ⟨h1, h2⟩ := ih (insS x acc) (insS_strict x acc h hx)
   refine ⟨h1, fun z => ?_⟩
   rw [h2 z, insS_mem, List.mem_cons]
   constructor
   ·rintro ((e | e) | e)
    ·exact Or.inr (Or.inl e)
    ·exact Or.inl e
    ·exact Or.inr (Or.inr e)
   ·rintro (e | e | e)
    ·exact Or.inl (Or.inr e)
    ·exact Or.inl (Or.inl e)
    ·exact Or.inr e
theorem putAll_len : ∀ l acc, (putAll l acc).length ≤ acc.length + l.length := by
 intro l
 induction l with
 | nil => intro acc; exact Nat.le_refl _
 | cons x l ih =>
  intro acc
  unfold putAll
  split
  ·have := ih acc; rw [List.length_cons]; omega
  ·have := ih (insS x acc); rw [insS_len] at this; rw [List.length_cons]; omega
def srtS (l : List Int) : List Int := l.mergeSort fun x y => decide (x ≤ y)
theorem srtS_len (l : List Int) : (srtS l).length = l.length := List.length_mergeSort _
theorem srtS_mem (l : List Int) (z : Int) : z ∈ srtS l ↔ z ∈ l := (List.mergeSort_perm l _).mem_iff
theorem srtS_sorted (l : List Int) : (srtS l).Pairwise (· ≤ ·) := by
 have := List.pairwise_mergeSort (le := fun x y : Int => decide (x ≤ y)) (fun a b c h1 h2 => by simp at *; omega) (fun a b => by simp; omega) l
 exact this.imp (fun h => by simpa using h)
theorem sorted_at (d : List Int) (h : d.Pairwise (· ≤ ·)) (i j : Nat) (hij : i ≤ j) (hj : j < d.length) : d.toArray[i]! ≤ d.toArray[j]! := by
 rcases Nat.lt_or_eq_of_le hij with hlt | rfl
 ·have := (List.pairwise_iff_getElem.1 h) i j (by omega) hj hlt
  simp [hj, show i < d.length by omega]
  exact this
 ·exact Int.le_refl _
theorem upTo_law (d : List Int) (h : d.Pairwise (· ≤ ·)) : ∀ m, m ≤ d.length → StrictS (Go.Lib.compactUpTo d.toArray m) ∧ (∀ z, z ∈ Go.Lib.compactUpTo d.toArray m ↔ ∃ j, j < m ∧ d.toArray[j]! = z) := by
 intro m
 induction m with
 | zero =>
  intro _
  refine ⟨List.Pairwise.nil, fun z => ?_⟩
  constructor
  ·intro hz; exact absurd hz (by simp [Go.Lib.compactUpTo])
  ·rintro ⟨j, hj, _⟩; omega
 | succ m ih =>
  intro hm
  obtain ⟨h1, h2⟩ := ih (by omega)
  rw [Go.Lib.compactUpTo_succ]
  by_cases hk : Go.Lib.keeps d.toArray m = true
  ·rw [if_pos hk]
   refine ⟨?_, fun z => ?_⟩
   ·refine List.pairwise_append.2 ⟨h1, List.pairwise_singleton _ _, fun x hx y hy => ?_⟩
    rw [List.mem_singleton] at hy
    subst hy
    obtain ⟨j, hj, rfl⟩ := (h2 x).1 hx
    have hne : d.toArray[m]! ≠ d.toArray[m - 1]! := by
     unfold Go.Lib.keeps at hk
     rw [decide_eq_true_eq] at hk
     rcases hk with e | e
     ·omega
     ·exact e
    have a1 := sorted_at d h j (m - 1) (by omega) (by omega)
    have a2 := sorted_at d h (m - 1) m (by omega) (by omega)
    omega
   ·rw [List.mem_append, h2 z, List.mem_singleton]
    constructor
    ·rintro (⟨j, hj, e⟩ | e)
     ·exact ⟨j, by omega, e⟩
     ·exact ⟨m, by omega, e.symm⟩
    ·rintro ⟨j, hj, e⟩
     by_cases hjm : j = m
     ·subst hjm; exact Or.inr e.symm
     ·exact Or.inl ⟨j, by omega, e⟩
  ·rw [if_neg hk, List.append_nil]
   refine ⟨h1, fun z => ?_⟩
   rw [h2 z]
   have hk' : ¬ (m = 0 ∨ d.toArray[m]! ≠ d.toArray[m - 1]!) := by
    intro c; apply hk; unfold Go.Lib.keeps; exact decide_eq_true c
   constructor
   ·rintro ⟨j, hj, e⟩; exact ⟨j, by omega, e⟩
   ·rintro ⟨j, hj, e⟩
    by_cases hjm : j = m
    ·subst hjm
     refine ⟨j - 1, by omega, ?_⟩
     rw [← e]
     apply Classical.byContradiction
     intro hn
     exact hk' (Or.inr (fun z => hn z.symm))
    ·exact ⟨j, by omega, e⟩
theorem compact_putAll (l : List Int) : Go.Lib.compact (srtS l) = putAll l [] := by
 obtain ⟨h1, h2⟩ := upTo_law (srtS l) (srtS_sorted l) (srtS l).length (Nat.le_refl _)
 obtain ⟨h3, h4⟩ := putAll_law l [] List.Pairwise.nil
 refine strict_eq _ _ h1 h3 (fun z => ?_)
 rw [h4 z]
 show z ∈ Go.Lib.compactUpTo (srtS l).toArray (srtS l).length ↔ _
 rw [h2 z]
 constructor
 ·rintro ⟨j, hj, e⟩
  refine Or.inr ((srtS_mem l z).1 ?_)
  rw [← e]
  simp [hj]
 ·rintro (e | e)
  ·cases e
  ·obtain ⟨j, hj, e2⟩ := List.getElem_of_mem ((srtS_mem l z).2 e)
   exact ⟨j, hj, by simp [hj]; exact e2⟩
theorem rdI (l : List Int) (i : Nat) (hi : i < l.length) : rd l (i : Int) = l[i] := by simp [rd, hi]
def pidE (e : S131) : Int := e.f0
theorem sort_f (l : List Int) (h : l.length ≤ 4194304) : slices_Sort_int_int.f l = some (srtS l) := if_pos (by omega)
theorem ev_impl_PidsIn (L : List S131) (hL : L.length ≤ 1048576) : Ev (fun k => impl_PidsIn.f k L) (putAll (L.map pidE) []) := by
 have key := evUp (r := putAll (L.map pidE) []) L.length (fun i k => impl_PidsIn.l0 k ((L.take i).map pidE) L (L.length : Int) (i : Int)) ?_ ?_
 ·exact key
 ·intro i hi ih
  refine evSucc ?_
  simp only [impl_PidsIn.l0]
  refine evPos (by omega) (evPos (by omega) (evPos (by omega) (evPos (by rw [List.length_map, List.length_take]; omega) ?_)))
  rw [rdE L i hi, w64 (by omega) (by omega), ci]
  rw [takeSnoc L i hi, List.map_append] at ih
  exact ih
 ·refine evSucc ?_
  simp only [impl_PidsIn.l0]
  refine evNeg (by omega) ?_
  rw [List.take_length]
  refine evBindS (sort_f _ (by rw [List.length_map]; omega)) ?_
  refine evBindS (show slices_Compact_int_int.f (srtS (L.map pidE)) = some (Go.Lib.compact (srtS (L.map pidE))) from rfl) ?_
  rw [compact_putAll]
  exact Ev.now _
def evB (e : S131) : Bool := e.f2.f0 == 1
def evN (e : S131) : Int := e.f2.f1
def evsL (L : List S131) : List Int := (L.filter evB).map evN
def cntI (x : Int) : List Int → Nat
 | [] => 0
 | y :: l => (if y = x then 1 else 0) + cntI x l
theorem cntI_append (x : Int) : ∀ a b, cntI x (a ++ b) = cntI x a + cntI x b := by
 intro a
 induction a with
 | nil => intro b; simp [cntI]
 | cons y a ih =>
  intro b
  show (if y = x then 1 else 0) + cntI x (a ++ b) = ((if y = x then 1 else 0) + cntI x a) + cntI x b
  rw [ih b, Nat.add_assoc]
theorem cntI_perm (x : Int) {a b : List Int} (h : a.Perm b) : cntI x a = cntI x b := by
 induction h with
 | nil => rfl
 | cons y _ ih => unfold cntI; rw [ih]
 | swap y z l => unfold cntI cntI; omega
 | trans _ _ i1 i2 => rw [i1, i2]
theorem cntI_none (x : Int) : ∀ l, x ∉ l → cntI x l = 0 := by
 intro l
 induction l with
 | nil => intro _; rfl
 | cons y l ih =>
  intro h
  unfold cntI
  rw [if_neg (fun e => h (by rw [e]; exact List.mem_cons_self ..)), ih (fun e => h (List.mem_cons_of_mem _ e))]
theorem cntI_pos (x : Int) : ∀ l, x ∈ l → 0 < cntI x l := by
 intro l
 induction l with
 | nil => intro h; cases h
 | cons y l ih =>
  intro h
  unfold cntI
  rcases List.mem_cons.1 h with e | e
  ·rw [if_pos e.symm]; omega
  ·have := ih e; omega
theorem cntI_le (x : Int) : ∀ l, cntI x l ≤ l.length := by
 intro l
 induction l with
 | nil => exact Nat.le_refl _
 | cons y l ih => unfold cntI; rw [List.length_cons]; split <;> omega
def talOf (ns : List Int) (L : List Int) : List S65 := ns.map (fun n => ⟨n, (cntI n L : Int)⟩)
def tallies (L : List S131) : List S65 := talOf (putAll (evsL L) []) (evsL L)
theorem rdT (l : List S65) (i : Nat) (hi : i < l.length) : rd_T65 l (i : Int) = l[i] := by simp [rd_T65, hi]
theorem evsL_len (L : List S131) : (evsL L).length ≤ L.length := by
 unfold evsL
 rw [List.length_map]
 exact List.length_filter_le _ _
theorem tallies_len (L : List S131) : (tallies L).length ≤ L.length := by
 unfold tallies talOf
 have := putAll_len (evsL L) []
 have := evsL_len L
 rw [List.length_map]
 rw [List.length_nil] at *
 omega
theorem talOf_snoc (p : List Int) (x : Int) (T : List Int) : talOf (p ++ [x]) T = talOf p T ++ [⟨x, (cntI x T : Int)⟩] := by unfold talOf; rw [List.map_append]; rfl
theorem talOf_same (x : Int) (T : List Int) : ∀ p : List Int, (∀ n ∈ p, n ≠ x) → talOf p (T ++ [x]) = talOf p T := by
 intro p h
 unfold talOf
 refine List.map_congr_left (fun n hn => ?_)
 rw [cntI_append]
 have e : cntI n [x] = 0 := by unfold cntI cntI; rw [if_neg (fun z => h n hn z.symm)]
 rw [e, Nat.add_zero]
theorem talOf_len (p T : List Int) : (talOf p T).length = p.length := by unfold talOf; rw [List.length_map]
theorem bang_at (S : List Int) (i : Nat) (h : i < S.length) : S.toArray[i]! = S[i] := by simp [h]
theorem upTo_last (S : List Int) : ∀ m, m < S.length → ∃ p, Go.Lib.compactUpTo S.toArray (m + 1) = p ++ [S.toArray[m]!] := by
 intro m
 induction m with
 | zero =>
  intro h
  refine ⟨[], ?_⟩
  rw [Go.Lib.compactUpTo_succ, if_pos (show Go.Lib.keeps S.toArray 0 = true by unfold Go.Lib.keeps; exact decide_eq_true (Or.inl rfl))]
  rfl
 | succ m ih =>
  intro h
  rw [Go.Lib.compactUpTo_succ]
  by_cases hk : Go.Lib.keeps S.toArray (m + 1) = true
  ·rw [if_pos hk]
   exact ⟨_, rfl⟩
  ·rw [if_neg hk, List.append_nil]
   obtain ⟨p, hp⟩ := ih (by omega)
   refine ⟨p, ?_⟩
   have he : S.toArray[m + 1]! = S.toArray[m]! := by
    apply Classical.byContradiction
    intro hn
    exact hk (by unfold Go.Lib.keeps; exact decide_eq_true (Or.inr (by rw [Nat.add_sub_cancel]; exact hn)))
   rw [he]
   exact hp
theorem upTo_le (d : Array Int) : ∀ m, (Go.Lib.compactUpTo d m).length ≤ m := by
 intro m
 induction m with
 | zero => simp [Go.Lib.compactUpTo]
 | succ m ih =>
  rw [Go.Lib.compactUpTo_succ, List.length_append]
  split
  ·rw [List.length_singleton]; omega
  ·rw [List.length_nil]; omega
theorem ev_impl_runs (S : List Int) (hS : S.Pairwise (· ≤ ·)) (hl : S.length ≤ 1048576) : Ev (fun k => impl_TalliesOf.l1 k [] S (S.length : Int) 0) (talOf (Go.Lib.compact S) S) := by
 have key := evUp (r := talOf (Go.Lib.compact S) S) S.length (fun m k => impl_TalliesOf.l1 k (talOf (Go.Lib.compactUpTo S.toArray m) (S.take m)) S (S.length : Int) (m : Int)) ?_ ?_
 ·refine Ev.congr (fun k => ?_) key
  rfl
 ·intro m hm ih
  have hle := upTo_le S.toArray m
  obtain ⟨hst, hmem⟩ := upTo_law S hS m (by omega)
  have hst1 := (upTo_law S hS (m + 1) (by omega)).1
  have htake : S.take (m + 1) = S.take m ++ [S[m]] := takeSnoc S m hm
  refine evSucc ?_
  simp only [impl_TalliesOf.l1]
  refine evPos (by omega) (evPos (by omega) (evPos (by omega) ?_))
  rw [rdI S m hm, w64 (x := (m : Int) + 1) (by omega) (by omega), ci m, talOf_len]
  rw [Go.Lib.compactUpTo_succ, bang_at S m hm] at hst1 ih
  have fresh : Go.Lib.keeps S.toArray m = true → Ev (fun k => impl_TalliesOf.l1 k (talOf (Go.Lib.compactUpTo S.toArray m) (S.take m) ++ [⟨S[m], 1⟩]) S (S.length : Int) ((m + 1 : Nat) : Int)) (talOf (Go.Lib.compact S) S) := by
   intro hk
   rw [if_pos hk] at hst1 ih
   have hne : ∀ n ∈ Go.Lib.compactUpTo S.toArray m, n ≠ S[m] := by
    intro n hn e
    have := (List.pairwise_append.1 hst1).2.2 n hn S[m] (List.mem_singleton.2 rfl)
    omega
   have hno : S[m] ∉ S.take m := by
    intro hin
    obtain ⟨j, hj, e⟩ := List.getElem_of_mem hin
    rw [List.length_take] at hj
    rw [List.getElem_take] at e
    exact hne S[m] ((hmem S[m]).2 ⟨j, by omega, by rw [bang_at S j (by omega)]; exact e⟩) rfl
   rw [talOf_snoc, htake, talOf_same _ _ _ hne, cntI_append, cntI_none _ _ hno, show cntI S[m] [S[m]] = 1 by unfold cntI cntI; rw [if_pos rfl]] at ih
   exact ih
  cases m with
  | zero =>
   rw [show (Go.Lib.compactUpTo S.toArray 0).length = 0 by simp [Go.Lib.compactUpTo]]
   refine evNeg (by omega) (evPos (by omega) ?_)
   exact fresh (by unfold Go.Lib.keeps; exact decide_eq_true (Or.inl rfl))
  | succ q =>
   obtain ⟨p, hp⟩ := upTo_last S q (by omega)
   rw [bang_at S q (by omega)] at hp
   have hpl : (Go.Lib.compactUpTo S.toArray (q + 1)).length = p.length + 1 := by rw [hp, List.length_append, List.length_singleton]
   have hlast : wrap64 (((Go.Lib.compactUpTo S.toArray (q + 1)).length : Int) - 1) = (p.length : Int) := by rw [w64 (by omega) (by omega)]; omega
   rw [hlast]
   have hout : talOf (Go.Lib.compactUpTo S.toArray (q + 1)) (S.take (q + 1)) = talOf p (S.take (q + 1)) ++ [⟨S[q], (cntI S[q] (S.take (q + 1)) : Int)⟩] := by rw [hp, talOf_snoc]
   have hrd : rd_T65 (talOf (Go.Lib.compactUpTo S.toArray (q + 1)) (S.take (q + 1))) (p.length : Int) = ⟨S[q], (cntI S[q] (S.take (q + 1)) : Int)⟩ := by
    have hl2 : p.length < (talOf (Go.Lib.compactUpTo S.toArray (q + 1)) (S.take (q + 1))).length := by rw [talOf_len]; omega
    rw [rdT _ _ hl2]
    simp only [hout]
    rw [List.getElem_append_right (by rw [talOf_len]; exact Nat.le_refl _)]
    simp [talOf_len]
   rw [hrd]
   have hcl := cntI_le S[q] (S.take (q + 1))
   rw [List.length_take] at hcl
   refine evPos (by omega) (evPos (by omega) (evPos (by omega) ?_))
   by_cases hc : S[q] = S[q + 1]
   ·have hk : ¬ Go.Lib.keeps S.toArray (q + 1) = true := by
     unfold Go.Lib.keeps
     rw [decide_eq_true_eq, bang_at S (q + 1) hm, Nat.add_sub_cancel, bang_at S q (by omega), hc]
     rintro (z | z)
     ·omega
     ·exact z rfl
    rw [if_neg hk, List.append_nil] at ih
    refine evPos hc ?_
    have hne : ∀ n ∈ p, n ≠ S[q + 1] := by
     intro n hn e
     rw [hp] at hst
     have := (List.pairwise_append.1 hst).2.2 n hn S[q] (List.mem_singleton.2 rfl)
     omega
    rw [hp, talOf_snoc, htake, talOf_same _ _ _ hne, cntI_append, hc, show cntI S[q + 1] [S[q + 1]] = 1 by unfold cntI cntI; rw [if_pos rfl]] at ih
    rw [w64 (x := (cntI S[q] (S.take (q + 1)) : Int) + 1) (by omega) (by omega), Int.toNat_natCast, hout, List.set_append_right _ _ (by rw [talOf_len]; exact Nat.le_refl _), talOf_len, Nat.sub_self, List.set_cons_zero, hc]
    exact ih
   ·refine evNeg hc (evPos (by omega) ?_)
    refine fresh ?_
    unfold Go.Lib.keeps
    refine decide_eq_true (Or.inr ?_)
    rw [bang_at S (q + 1) hm, Nat.add_sub_cancel, bang_at S q (by omega)]
    exact fun z => hc z.symm
 ·refine evSucc ?_
  simp only [impl_TalliesOf.l1]
  refine evNeg (by omega) ?_
  rw [List.take_length]
  exact Ev.now _
theorem ev_impl_TalliesOf (L : List S131) (hL : L.length ≤ 1048576) : Ev (fun k => impl_TalliesOf.f k L) (tallies L) := by
 have hn := evsL_len L
 have fin : Ev (fun k => impl_TalliesOf.l1 k [] (srtS (evsL L)) ((evsL L).length : Int) 0) (tallies L) := by
  have h := ev_impl_runs (srtS (evsL L)) (srtS_sorted _) (by rw [srtS_len]; omega)
  rw [srtS_len, compact_putAll] at h
  refine evEq h ?_
  unfold tallies talOf
  refine List.map_congr_left (fun n _ => ?_)
  rw [show cntI n (srtS (evsL L)) = cntI n (evsL L) from cntI_perm n (List.mergeSort_perm _ _)]
 have key := evUp (r := tallies L) L.length (fun i k => impl_TalliesOf.l0 k (evsL (L.take i)) L (L.length : Int) (i : Int)) ?_ ?_
 ·exact key
 ·intro i hi ih
  have hs : evsL (L.take (i + 1)) = evsL (L.take i) ++ (if evB L[i] = true then [evN L[i]] else []) := by
   rw [takeSnoc L i hi]
   unfold evsL
   rw [List.filter_append, List.map_append]
   congr 1
   cases h : evB L[i] <;> simp [List.filter, h]
  have hc2 := evsL_len (L.take i)
  rw [List.length_take] at hc2
  rw [hs] at ih
  refine evSucc ?_
  simp only [impl_TalliesOf.l0]
  refine evPos (by omega) (evPos (by omega) (evPos (by omega) ?_))
  rw [rdE L i hi, w64 (x := (i : Int) + 1) (by omega) (by omega), ci i]
  by_cases h1 : L[i].f2.f0 = 1
  ·rw [if_pos (show evB L[i] = true from beq_iff_eq.2 h1)] at ih
   exact evPos h1 (evPos (by omega) ih)
  ·rw [if_neg (show ¬ evB L[i] = true from fun z => h1 (beq_iff_eq.1 z)), List.append_nil] at ih
   exact evNeg h1 ih
 ·refine evSucc ?_
  simp only [impl_TalliesOf.l0]
  refine evNeg (by omega) ?_
  rw [List.take_length]
  exact evBindS (sort_f _ (by omega)) fin
def mostB (l : List S65) (b : Nat) : List S65 → Nat → Nat
 | [], _ => b
 | t :: r, i => mostB l (if t.f1 > (rd_T65 l (b : Int)).f1 then i else b) r (i + 1)
def mostV (l : List S65) : Int := match l with
 | [] => -1
 | t :: r => (rd_T65 l (mostB l 0 r 1 : Int)).f0
theorem mostB_lt (l : List S65) : ∀ r b i, b < i → i + r.length = l.length → mostB l b r i < l.length := by
 intro r
 induction r with
 | nil => intro b i hb hi; unfold mostB; rw [List.length_nil] at hi; omega
 | cons t r ih =>
  intro b i hb hi
  unfold mostB
  rw [List.length_cons] at hi
  exact ih _ _ (by split <;> omega) (by omega)
theorem ev_impl_most (l : List S65) (hl : l.length ≤ 1048576) (hpos : ∀ t ∈ l, 0 < t.f1) : Ev (fun k => impl_MostTold.l0 k l (l.length : Int) 0 (-1) 0) (mostV l) := by
 have key : ∀ d (b i : Nat), i + d = l.length → b < i → Ev (fun k => impl_MostTold.l0 k l (l.length : Int) (i : Int) (rd_T65 l (b : Int)).f0 (rd_T65 l (b : Int)).f1) (rd_T65 l (mostB l b (l.drop i) i : Int)).f0 := by
  intro d
  induction d with
  | zero =>
   intro b i hi hb
   refine evSucc ?_
   simp only [impl_MostTold.l0]
   rw [List.drop_of_length_le (by omega)]
   exact evNeg (by omega) (Ev.now _)
  | succ d ih =>
   intro b i hi hb
   have hlt : i < l.length := by omega
   refine evSucc ?_
   simp only [impl_MostTold.l0]
   refine evPos (by omega) (evPos (by omega) (evPos (by omega) ?_))
   rw [w64 (by omega) (by omega), ci, List.drop_eq_getElem_cons hlt]
   unfold mostB
   rw [rdT l i hlt]
   by_cases hc : l[i].f1 > (rd_T65 l (b : Int)).f1
   ·rw [if_pos hc]
    have := ih i (i + 1) (by omega) (by omega)
    rw [rdT l i hlt] at this
    exact evPos hc this
   ·rw [if_neg hc]
    exact evNeg hc (ih b (i + 1) (by omega) (by omega))
 cases l with
 | nil =>
  refine evSucc ?_
  simp only [impl_MostTold.l0]
  exact evNeg (by simp) (Ev.now _)
 | cons t r =>
  have h0 : (0 : Nat) < (t :: r).length := by rw [List.length_cons]; omega
  have e0 : rd_T65 (t :: r) 0 = t := rdT (t :: r) 0 h0
  refine evSucc ?_
  simp only [impl_MostTold.l0]
  refine evPos (by omega) (evPos (by omega) (evPos (by omega) (evPos ?_ ?_)))
  ·rw [e0]; exact hpos t (List.mem_cons_self ..)
  ·rw [show wrap64 (0 + 1) = ((1 : Nat) : Int) by rw [w64 (by omega) (by omega)]; rfl]
   exact key r.length 0 1 (by rw [List.length_cons]; omega) (by omega)
theorem tallies_pos (L : List S131) : ∀ t ∈ tallies L, 0 < t.f1 := by
 intro t ht
 unfold tallies talOf at ht
 obtain ⟨n, hn, rfl⟩ := List.mem_map.1 ht
 have hm := ((putAll_law (evsL L) [] List.Pairwise.nil).2 n).1 hn
 have := cntI_pos n (evsL L) (hm.elim (fun e => by cases e) id)
 show (0 : Int) < (cntI n (evsL L) : Int)
 omega
theorem ev_impl_MostTold (L : List S131) (hL : L.length ≤ 1048576) : Ev (fun k => impl_MostTold.f k L) (mostV (tallies L)) := by
 have := tallies_len L
 simp only [impl_MostTold.f]
 exact Ev.bind (ev_impl_TalliesOf L hL) (ev_impl_most _ (by omega) (tallies_pos L))
def tb (pid : Int) (l : List S131) : Nat := l.countP (fun e => e.f0 == pid && e.f2.f0 == 1)
theorem tb_le (pid : Int) (l : List S131) : tb pid l ≤ l.length := List.countP_le_length
theorem tb_step (pid : Int) (l : List S131) (i : Nat) (hi : i < l.length) : tb pid (l.take (i + 1)) = tb pid (l.take i) + (if l[i].f0 = pid ∧ l[i].f2.f0 = 1 then 1 else 0) := by
 unfold tb
 rw [takeSnoc l i hi, List.countP_append, List.countP_singleton]
 simp
theorem ev_impl_ToldBy (l : List S131) (pid : Int) (hl : l.length ≤ 1048576) : Ev (fun k => impl_ToldBy.f k l pid) (tb pid l : Int) := by
 have key := evUp (r := (tb pid l : Int)) l.length (fun i k => impl_ToldBy.l0 k pid (tb pid (l.take i) : Int) l (l.length : Int) (i : Int)) ?_ ?_
 ·exact key
 ·intro i hi ih
  have hb := tb_le pid (l.take i)
  have hs := tb_step pid l i hi
  have hlen : (l.take i).length ≤ i := by simp; omega
  refine evSucc ?_
  simp only [impl_ToldBy.l0]
  refine evPos (by omega) (evPos (by omega) (evPos (by omega) ?_))
  rw [rdE l i hi, w64 (x := (i : Int) + 1) (by omega) (by omega), ci i]
  by_cases h1 : l[i].f0 = pid
  ·refine evPos h1 ?_
   by_cases h2 : l[i].f2.f0 = 1
   ·refine evPos h2 ?_
    rw [if_pos ⟨h1, h2⟩] at hs
    rw [w64 (by omega) (by omega), show (tb pid (l.take i) : Int) + 1 = (tb pid (l.take (i + 1)) : Int) by omega]
    exact ih
   ·refine evNeg h2 ?_
    rw [if_neg (fun h => h2 h.2)] at hs
    rw [show (tb pid (l.take i) : Int) = (tb pid (l.take (i + 1)) : Int) by omega]
    exact ih
  ·refine evNeg h1 ?_
   rw [if_neg (fun h => h1 h.1)] at hs
   rw [show (tb pid (l.take i) : Int) = (tb pid (l.take (i + 1)) : Int) by omega]
   exact ih
 ·refine evSucc ?_
  simp only [impl_ToldBy.l0]
  refine evNeg (by omega) ?_
  rw [List.take_length]
  exact Ev.now _
theorem bits_nat (op : BinOp) (k : IntKind) (x y : Int) : Go.bits op k x y = match op with
 | .and => k.wrap ((BitVec.ofInt k.bits x &&& BitVec.ofInt k.bits y).toNat : Int)
 | .or => k.wrap ((BitVec.ofInt k.bits x ||| BitVec.ofInt k.bits y).toNat : Int)
 | .xor => k.wrap ((BitVec.ofInt k.bits x ^^^ BitVec.ofInt k.bits y).toNat : Int)
 | .andNot => k.wrap ((BitVec.ofInt k.bits x &&& ~~~BitVec.ofInt k.bits y).toNat : Int)
 | _ => Go.bits op k x y := by
 cases op <;> rfl
theorem ofInt_nat64 (n : Nat) (h : n < 18446744073709551616) : (BitVec.ofInt 64 (n : Int)).toNat = n := by
 rw [BitVec.toNat_ofInt]; omega
theorem wrap_i64 (x : Int) : IntKind.wrap .i64 x = wrap64 x := i64_w x
def rng (x lo hi : Int) : Bool := decide (lo ≤ x) && decide (x ≤ hi)
def itemB (a b c d : Int) : Bool := if a = 1 then rng b 0 4294967295 && (rng c 0 4294967295 && d == 0) else if a = 2 then rng d 1 1000000000 && (b == 0 && c == 0) else false
def frameB (a b c d e f g : Int) : Bool := rng b 0 2 && (rng c 1 1000000000 && (if a = 1 then itemB d e f g else if a = 2 then (d == 0 && (e == 0 && (f == 0 && (g == 0)))) else false))
theorem and255 (x : Int) : 0 ≤ Go.bits .and .i64 x 255 ∧ Go.bits .and .i64 x 255 ≤ 255 := by
 have e : Go.bits .and .i64 x 255 = (((BitVec.ofInt 64 x).toNat % 256 : Nat) : Int) := by
  rw [bits_nat]
  show IntKind.wrap .i64 ((BitVec.ofInt 64 x &&& BitVec.ofInt 64 ((255 : Nat) : Int)).toNat : Int) = _
  rw [BitVec.toNat_and, ofInt_nat64 255 (by omega), wrap_i64]
  have : (BitVec.ofInt 64 x).toNat &&& 255 = (BitVec.ofInt 64 x).toNat % 256 := Nat.and_two_pow_sub_one_eq_mod _ 8
  rw [this, w64 (by omega) (by omega)]
 rw [e]
 omega
theorem drawByte (b : List Int) (i h : Int) (h0 : 0 ≤ i) (h1 : i ≤ b.length) (hb : b.length ≤ 16777216) : ∃ x i' h', spec_l01Byte.f b i h = some (x, i', h') ∧ 0 ≤ x ∧ x ≤ 255 ∧ 0 ≤ i' ∧ i' ≤ b.length := by
 unfold spec_l01Byte.f
 by_cases hc : i < (b.length : Int)
 ·rw [if_pos hc, if_pos h0, w64 (x := i + 1) (by omega) (by omega)]
  refine ⟨_, _, _, rfl, (and255 _).1, (and255 _).2, by omega, by omega⟩
 ·rw [if_neg hc]
  exact ⟨_, _, _, rfl, (and255 _).1, (and255 _).2, h0, h1⟩
theorem drawBelow (b : List Int) (i h n : Int) (h0 : 0 ≤ i) (h1 : i ≤ b.length) (hb : b.length ≤ 16777216) (hn : 0 < n) : ∃ x i' h', spec_l01Below.f b i h n = some (x, i', h') ∧ 0 ≤ x ∧ x < n ∧ 0 ≤ i' ∧ i' ≤ b.length := by
 unfold spec_l01Below.f
 rw [if_neg (by omega)]
 by_cases hc : n ≤ 256
 ·obtain ⟨x, i', h', e, x0, x1, i0, i1⟩ := drawByte b i h h0 h1 hb
  rw [if_pos hc, e]
  simp only [Option.bind_some]
  rw [if_neg (by omega), Int.tmod_eq_emod_of_nonneg x0]
  exact ⟨_, _, _, rfl, Int.emod_nonneg _ (by omega), Int.emod_lt_of_pos _ hn, i0, i1⟩
 ·obtain ⟨x, i1, h1', e1, x0, x1, j0, j1⟩ := drawByte b i h h0 h1 hb
  obtain ⟨y, i2, h2', e2, y0, y1, k0, k1⟩ := drawByte b i1 h1' j0 j1 hb
  obtain ⟨z, i3, h3', e3, z0, z1, l0, l1⟩ := drawByte b i2 h2' k0 k1 hb
  obtain ⟨v, i4, h4', e4, v0, v1, m0, m1⟩ := drawByte b i3 h3' l0 l1 hb
  rw [if_neg hc, e1]
  simp only [Option.bind_some, e2, e3, e4]
  rw [if_neg (by omega), w64 (x := x * 16777216) (by omega) (by omega), w64 (x := y * 65536) (by omega) (by omega), w64 (x := x * 16777216 + y * 65536) (by omega) (by omega), w64 (x := z * 256) (by omega) (by omega), w64 (x := x * 16777216 + y * 65536 + z * 256) (by omega) (by omega), w64 (x := x * 16777216 + y * 65536 + z * 256 + v) (by omega) (by omega), Int.tmod_eq_emod_of_nonneg (by omega)]
  exact ⟨_, _, _, rfl, Int.emod_nonneg _ (by omega), Int.emod_lt_of_pos _ hn, m0, m1⟩
theorem drawOnce (b : List Int) (i h n : Int) (h0 : 0 ≤ i) (h1 : i ≤ b.length) (hb : b.length ≤ 16777216) (hn : 0 < n) : ∃ (x : Bool) (i' h' : Int), spec_l01Once.f b i h n = some (x, i', h') ∧ 0 ≤ i' ∧ i' ≤ b.length := by
 unfold spec_l01Once.f
 obtain ⟨x, i', h', e, x0, x1, i0, i1⟩ := drawBelow b i h n h0 h1 hb hn
 rw [e]
 exact ⟨_, _, _, rfl, i0, i1⟩
theorem drawNew (b : List Int) (hb : b.length ≤ 16777216) : ∃ h : Int, Ev (fun k => spec_l01New.f k b) (b, 0, h) := by
 have key : ∀ d (i : Nat) (h : Int), i + d = b.length → ∃ h', Ev (fun k => spec_l01New.l0 k b h (i : Int)) (b, 0, h') := by
  intro d
  induction d with
  | zero =>
   intro i h hi
   refine ⟨h, evSucc ?_⟩
   simp only [spec_l01New.l0]
   exact evNeg (by omega) (Ev.now _)
  | succ d ih =>
   intro i h hi
   by_cases h4 : (i : Int) < 4000
   ·obtain ⟨h', hh⟩ := ih (i + 1) (Go.bits .and .i64 (wrap64 ((wrap64 ((wrap64 (h * 131)) + (wrap64 (rd b (i : Int))))) + 7)) 1073741823) (by omega)
    refine ⟨h', evSucc ?_⟩
    simp only [spec_l01New.l0]
    refine evPos (by omega) (evPos h4 (evPos (by omega) ?_))
    rw [w64 (x := (i : Int) + 1) (by omega) (by omega), ci]
    exact hh
   ·refine ⟨h, evSucc ?_⟩
    simp only [spec_l01New.l0]
    exact evPos (by omega) (evNeg h4 (Ev.now _))
 simp only [spec_l01New.f]
 exact key b.length 0 _ (by omega)
theorem drawHalf (b : List Int) (i h : Int) (h0 : 0 ≤ i) (h1 : i ≤ b.length) (hb : b.length ≤ 16777216) : ∃ x i' h', spec_l04Half.f b i h = some (x, i', h') ∧ 0 ≤ x ∧ x ≤ 4294967295 ∧ 0 ≤ i' ∧ i' ≤ b.length := by
 unfold spec_l04Half.f
 obtain ⟨x, i1, h1', e1, x0, x1, j0, j1⟩ := drawBelow b i h 12 h0 h1 hb (by omega)
 rw [e1]
 simp only [Option.bind_some]
 unfold spec_l01PickInt.f
 obtain ⟨y, i2, h2', e2, y0, y1, k0, k1⟩ := drawBelow b i1 h1' (([0, 1, 2, 3, 5, 7, 255, 4294967295, 2147483648, x] : List Int).length : Int) j0 j1 hb (by simp)
 rw [e2]
 simp only [Option.bind_some]
 rw [if_pos y0, if_pos y1]
 simp only [Option.bind_some]
 have hy : y < 10 := y1
 refine ⟨_, _, _, rfl, ?_, ?_, k0, k1⟩
 all_goals
  have hc : y = 0 ∨ y = 1 ∨ y = 2 ∨ y = 3 ∨ y = 4 ∨ y = 5 ∨ y = 6 ∨ y = 7 ∨ y = 8 ∨ y = 9 := by omega
  rcases hc with rfl | rfl | rfl | rfl | rfl | rfl | rfl | rfl | rfl | rfl <;> simp [rd] <;> omega
def okE (x : S131) : Bool := frameB 1 x.f0 x.f1 x.f2.f0 x.f2.f1 x.f2.f2 x.f2.f3
theorem drawItem (b : List Int) (i h : Int) (h0 : 0 ≤ i) (h1 : i ≤ b.length) (hb : b.length ≤ 16777216) : ∃ c d e f i' h', spec_l17Item.f b i h = some (c, d, e, f, i', h') ∧ itemB c d e f = true ∧ 0 ≤ i' ∧ i' ≤ b.length := by
 unfold spec_l17Item.f
 obtain ⟨x, i1, h1', e1, j0, j1⟩ := drawOnce b i h 3 h0 h1 hb (by omega)
 rw [e1]
 simp only [Option.bind_some]
 cases x
 ·rw [if_neg (by simp)]
  obtain ⟨y, i2, h2', e2, y0, y1, k0, k1⟩ := drawBelow b i1 h1' 9 j0 j1 hb (by omega)
  rw [e2]
  simp only [Option.bind_some]
  obtain ⟨z, i3, h3', e3, z0, z1, l0, l1⟩ := drawHalf b i2 h2' k0 k1 hb
  rw [e3]
  refine ⟨_, _, _, _, _, _, rfl, ?_, l0, l1⟩
  unfold itemB rng
  simp
  omega
 ·rw [if_pos rfl]
  obtain ⟨y, i2, h2', e2, y0, y1, k0, k1⟩ := drawBelow b i1 h1' 5 j0 j1 hb (by omega)
  rw [e2]
  simp only [Option.bind_some]
  rw [w64 (x := 1 + y) (by omega) (by omega)]
  refine ⟨_, _, _, _, _, _, rfl, ?_, k0, k1⟩
  unfold itemB rng
  simp
  omega
theorem drawEntriesGo (b : List Int) (hb : b.length ≤ 16777216) : ∀ (d : Nat) (i h : Int) (n : Nat) (out : List S131), 0 ≤ i → i ≤ b.length → n + d = 5 → out.length = n → out.all okE = true →
 ∃ l i' h', Ev (fun k => spec_l19Entries.l0 k out (n : Int) b i h) (l, i', h') ∧ l.length ≤ 5 ∧ l.all okE = true ∧ 0 ≤ i' ∧ i' ≤ b.length := by
 intro d
 induction d with
 | zero =>
  intro i h n out h0 h1 hn ho ha
  obtain ⟨x, i1, h1', e1, x0, x1, j0, j1⟩ := drawBelow b i h 6 h0 h1 hb (by omega)
  refine ⟨out, i1, h1', evSucc ?_, by omega, ha, j0, j1⟩
  simp only [spec_l19Entries.l0]
  exact evBindS e1 (evNeg (by omega) (Ev.now _))
 | succ d ih =>
  intro i h n out h0 h1 hn ho ha
  obtain ⟨x, i1, h1', e1, x0, x1, j0, j1⟩ := drawBelow b i h 6 h0 h1 hb (by omega)
  by_cases hx : (n : Int) < x
  ·obtain ⟨y, i2, h2', e2, y0, y1, k0, k1⟩ := drawBelow b i1 h1' 3 j0 j1 hb (by omega)
   obtain ⟨z, i3, h3', e3, z0, z1, l0, l1⟩ := drawBelow b i2 h2' 5 k0 k1 hb (by omega)
   obtain ⟨c, e, f, g, i4, h4', e4, hi, m0, m1⟩ := drawItem b i3 h3' l0 l1 hb
   obtain ⟨l, i', h', hev, hl, hall, q0, q1⟩ := ih i4 h4' (n + 1) (out ++ [⟨y, 1 + z, ⟨c, e, f, g⟩⟩]) m0 m1 (by omega) (by simp; omega) (by
    rw [List.all_append, ha]
    simp
    show frameB 1 y (1 + z) c e f g = true
    unfold frameB
    rw [if_pos rfl, hi]
    unfold rng
    simp
    omega)
   refine ⟨l, i', h', evSucc ?_, hl, hall, q0, q1⟩
   simp only [spec_l19Entries.l0]
   refine evBindS e1 (evPos hx (evBindS e2 (evBindS e3 (evBindS e4 (evPos (by omega) ?_)))))
   rw [w64 (x := (n : Int) + 1) (by omega) (by omega), w64 (x := 1 + z) (by omega) (by omega), ci]
   exact hev
  ·refine ⟨out, i1, h1', evSucc ?_, by omega, ha, j0, j1⟩
   simp only [spec_l19Entries.l0]
   exact evBindS e1 (evNeg hx (Ev.now _))
theorem drawEntriesAt (b : List Int) (hb : b.length ≤ 16777216) (i h : Int) (h0 : 0 ≤ i) (h1 : i ≤ b.length) :
 ∃ l i' h', Ev (fun k => spec_l19Entries.f k b i h) (l, i', h') ∧ l.length ≤ 5 ∧ l.all okE = true ∧ 0 ≤ i' ∧ i' ≤ b.length :=
 drawEntriesGo b hb 5 i h 0 [] h0 h1 (by omega) rfl rfl
theorem drawEntries (b : List Int) (hb : b.length ≤ 16777216) : ∃ l, Ev (fun k => spec_DrawEntries.f k b) l ∧ l.length ≤ 5 ∧ l.all okE = true := by
 obtain ⟨h, e⟩ := drawNew b hb
 obtain ⟨l, i', h', e2, hl, ha, _, _⟩ := drawEntriesAt b hb 0 h (by omega) (by omega)
 refine ⟨l, ?_, hl, ha⟩
 simp only [spec_DrawEntries.f]
 exact Ev.bind e (Ev.bind e2 (Ev.now _))
theorem drawPlaces (b : List Int) (hb : b.length ≤ 16777216) : ∃ l : List Int, Ev (fun k => spec_DrawPlaces.f k b) l ∧ l.length = 12 ∧ ∀ x ∈ l, 0 ≤ x ∧ x < 10000 := by
 obtain ⟨h, e⟩ := drawNew b hb
 obtain ⟨x, i1, h1', e1, _, _, j0, j1⟩ := drawByte b 0 h (by omega) (by omega) hb
 have key : ∀ (d i : Nat) (p q : Int) (out : List Int), i + d = 12 → out.length = i → (∀ x ∈ out, 0 ≤ x ∧ x < 10000) → 0 ≤ p → p ≤ b.length → ∃ l : List Int, Ev (fun k => spec_DrawPlaces.l0 k out (i : Int) b p q) l ∧ l.length = 12 ∧ ∀ x ∈ l, 0 ≤ x ∧ x < 10000 := by
  intro d
  induction d with
  | zero =>
   intro i p q out hi ho hx _ _
   refine ⟨out, evSucc ?_, by omega, hx⟩
   simp only [spec_DrawPlaces.l0]
   exact evNeg (by omega) (Ev.now _)
  | succ d ih =>
   intro i p q out hi ho hx hp0 hp1
   obtain ⟨y, i2, h2', e2, y0, y1, k0, k1⟩ := drawBelow b p q 10000 hp0 hp1 hb (by omega)
   obtain ⟨l, el, hl, hall⟩ := ih (i + 1) i2 h2' (out ++ [y]) (by omega) (by simp; omega) (by
    intro z hz
    rcases List.mem_append.1 hz with hz | hz
    ·exact hx z hz
    ·rw [List.mem_singleton.1 hz]; exact ⟨y0, y1⟩) k0 k1
   refine ⟨l, evSucc ?_, hl, hall⟩
   simp only [spec_DrawPlaces.l0]
   refine evPos (by omega) (evBindS e2 (evPos (by omega) ?_))
   rw [w64 (x := (i : Int) + 1) (by omega) (by omega), ci]
   exact el
 obtain ⟨l, el, hl, hall⟩ := key 12 0 i1 h1' [] (by omega) rfl (by intro x hx; cases hx) j0 j1
 refine ⟨l, ?_, hl, hall⟩
 simp only [spec_DrawPlaces.f]
 exact Ev.bind e (evBindS e1 el)
def sumT : List S65 → Int
 | [] => 0
 | t :: r => t.f1 + sumT r
theorem sumT_snoc (t : S65) : ∀ l, sumT (l ++ [t]) = sumT l + t.f1 := by
 intro l
 induction l with
 | nil => show t.f1 + 0 = 0 + t.f1; omega
 | cons x l ih => show x.f1 + sumT (l ++ [t]) = (x.f1 + sumT l) + t.f1; rw [ih]; omega
def bestG : List S65 → Int → Int
 | [], b => b
 | t :: r, b => bestG r (if t.f1 > b then t.f1 else b)
theorem bestG_snoc (t : S65) : ∀ l b, bestG (l ++ [t]) b = if t.f1 > bestG l b then t.f1 else bestG l b := by
 intro l
 induction l with
 | nil => intro b; rfl
 | cons x l ih => intro b; exact ih _
theorem mostB_best (l : List S65) : ∀ d (b i : Nat), i + d = l.length → b < i → (rd_T65 l (mostB l b (l.drop i) i : Int)).f1 = bestG (l.drop i) (rd_T65 l (b : Int)).f1 := by
 intro d
 induction d with
 | zero =>
  intro b i hi hb
  rw [List.drop_of_length_le (by omega)]
  rfl
 | succ d ih =>
  intro b i hi hb
  have hlt : i < l.length := by omega
  rw [List.drop_eq_getElem_cons hlt]
  unfold mostB bestG
  by_cases hc : l[i].f1 > (rd_T65 l (b : Int)).f1
  ·rw [if_pos hc, if_pos hc, ih i (i + 1) (by omega) (by omega), rdT l i hlt]
  ·rw [if_neg hc, if_neg hc, ih b (i + 1) (by omega) (by omega)]
theorem most_at (l : List S65) (hpos : ∀ t ∈ l, 0 < t.f1) (h0 : 0 < l.length) : ∃ j, ∃ hj : j < l.length, l[j].f0 = mostV l ∧ l[j].f1 = bestG l 0 := by
 cases l with
 | nil => cases h0
 | cons t r =>
  have hlt := mostB_lt (t :: r) r 0 1 (by omega) (by rw [List.length_cons]; omega)
  have hb := mostB_best (t :: r) r.length 0 1 (by rw [List.length_cons]; omega) (by omega)
  have e0 : rd_T65 (t :: r) ((0 : Nat) : Int) = t := rdT (t :: r) 0 h0
  rw [e0] at hb
  refine ⟨mostB (t :: r) 0 r 1, hlt, ?_, ?_⟩
  ·show _ = (rd_T65 (t :: r) (mostB (t :: r) 0 r 1 : Int)).f0
   rw [rdT _ _ hlt]
  ·rw [← rdT _ _ hlt]
   have hp := hpos t (List.mem_cons_self ..)
   show _ = bestG r (if t.f1 > 0 then t.f1 else 0)
   rw [if_pos hp]
   exact hb
def sumI (f : Int → Int) : List Int → Int
 | [] => 0
 | x :: l => f x + sumI f l
theorem sumI_snoc (f : Int → Int) (t : Int) : ∀ l, sumI f (l ++ [t]) = sumI f l + f t := by
 intro l
 induction l with
 | nil => show f t + 0 = 0 + f t; omega
 | cons x l ih => show f x + sumI f (l ++ [t]) = (f x + sumI f l) + f t; rw [ih]; omega
theorem sumI_add (f g : Int → Int) : ∀ l, sumI (fun x => f x + g x) l = sumI f l + sumI g l := by
 intro l
 induction l with
 | nil => rfl
 | cons x l ih => show (f x + g x) + sumI (fun x => f x + g x) l = (f x + sumI f l) + (g x + sumI g l); rw [ih]; omega
theorem sumI_zero (f : Int → Int) : ∀ l, (∀ x ∈ l, f x = 0) → sumI f l = 0 := by
 intro l
 induction l with
 | nil => intro _; rfl
 | cons x l ih =>
  intro h
  show f x + sumI f l = 0
  rw [h x (List.mem_cons_self ..), ih (fun y hy => h y (List.mem_cons_of_mem _ hy))]
  rfl
theorem sumI_one (y : Int) : ∀ l, StrictS l → y ∈ l → sumI (fun n => if y = n then 1 else 0) l = 1 := by
 intro l
 induction l with
 | nil => intro _ h; cases h
 | cons x l ih =>
  intro hs hy
  have hs' := List.pairwise_cons.1 hs
  show (if y = x then (1 : Int) else 0) + sumI (fun n => if y = n then 1 else 0) l = 1
  by_cases e : y = x
  ·rw [if_pos e, sumI_zero _ l (fun z hz => if_neg (by have := hs'.1 z hz; omega))]
   rfl
  ·rw [if_neg e, ih hs'.2 ((List.mem_cons.1 hy).resolve_left e)]
   rfl
theorem sum_counts (N : List Int) (hN : StrictS N) : ∀ X : List Int, (∀ x ∈ X, x ∈ N) → sumI (fun n => (cntI n X : Int)) N = (X.length : Int) := by
 intro X
 induction X with
 | nil => intro _; exact sumI_zero _ N (fun _ _ => rfl)
 | cons y X ih =>
  intro h
  have h1 := ih (fun x hx => h x (List.mem_cons_of_mem _ hx))
  have h2 := sumI_one y N hN (h y (List.mem_cons_self ..))
  have h3 := sumI_add (fun n => if y = n then 1 else 0) (fun n => (cntI n X : Int)) N
  have h4 : (fun n => (cntI n (y :: X) : Int)) = (fun n => (if y = n then (1 : Int) else 0) + (cntI n X : Int)) := by
   funext n
   show (((if y = n then 1 else 0) + cntI n X : Nat) : Int) = _
   split <;> omega
  rw [h4, h3, h1, h2, List.length_cons]
  omega
theorem sumT_talOf (X : List Int) : ∀ N : List Int, sumT (talOf N X) = sumI (fun n => (cntI n X : Int)) N := by
 intro N
 induction N with
 | nil => rfl
 | cons n N ih => show (cntI n X : Int) + sumT (talOf N X) = _; rw [ih]; rfl
theorem tb_cnt (p : Int) (L : List S131) : tb p L = cntI p ((L.filter evB).map pidE) := by
 induction L with
 | nil => rfl
 | cons e L ih =>
  unfold tb at ih ⊢
  rw [List.countP_cons, ih]
  by_cases h1 : evB e = true
  ·rw [List.filter_cons_of_pos h1, List.map_cons]
   show _ = (if pidE e = p then 1 else 0) + cntI p _
   have h1' : (e.f2.f0 == 1) = true := h1
   rw [h1', Bool.and_true]
   by_cases h2 : e.f0 = p
   ·rw [if_pos (beq_iff_eq.2 h2), if_pos (show pidE e = p from h2)]; omega
   ·rw [if_neg (fun z => h2 (beq_iff_eq.1 z)), if_neg (show ¬ pidE e = p from h2)]; omega
  ·rw [List.filter_cons_of_neg h1]
   have h1' : (e.f2.f0 == 1) = false := Bool.eq_false_iff.2 h1
   rw [h1', Bool.and_false]
   simp
theorem told_all (L : List S131) : sumI (fun p => (tb p L : Int)) (putAll (L.map pidE) []) = sumT (tallies L) := by
 obtain ⟨s1, m1⟩ := putAll_law (L.map pidE) [] List.Pairwise.nil
 obtain ⟨s2, m2⟩ := putAll_law (evsL L) [] List.Pairwise.nil
 unfold tallies
 rw [sumT_talOf, sum_counts _ s2 (evsL L) (fun x hx => (m2 x).2 (Or.inr hx))]
 have h4 : (fun p => (tb p L : Int)) = (fun p => (cntI p ((L.filter evB).map pidE) : Int)) := by funext p; rw [tb_cnt]
 rw [h4, sum_counts _ s1 ((L.filter evB).map pidE) (fun x hx => (m1 x).2 (Or.inr ?_))]
 ·unfold evsL; rw [List.length_map, List.length_map]
 ·obtain ⟨e, he, rfl⟩ := List.mem_map.1 hx
  exact List.mem_map.2 ⟨e, (List.mem_filter.1 he).1, rfl⟩
theorem twice_pids (X : List Int) : putAll (X ++ X) [] = putAll X [] := by
 obtain ⟨s1, m1⟩ := putAll_law (X ++ X) [] List.Pairwise.nil
 obtain ⟨s2, m2⟩ := putAll_law X [] List.Pairwise.nil
 refine strict_eq _ _ s1 s2 (fun z => ?_)
 rw [m1, m2, List.mem_append]
 exact ⟨fun h => h.imp id (fun h => h.elim id id), fun h => h.imp id Or.inl⟩
theorem ev_sameInts (l : List Int) (hl : l.length ≤ 4194304) : Ev (fun k => laws_sameInts.f k l l) true := by
 have key := evUp (r := true) l.length (fun i k => laws_sameInts.l0 k l l (i : Int)) ?_ ?_
 ·refine Ev.congr (fun k => ?_) key
  unfold laws_sameInts.f
  rw [if_pos rfl]
  rfl
 ·intro i hi ih
  refine evSucc ?_
  simp only [laws_sameInts.l0]
  refine evPos (by omega) (evPos (by omega) (evPos (by omega) (evPos trivial ?_)))
  rw [w64 (by omega) (by omega), ci]
  exact ih
 ·refine evSucc ?_
  simp only [laws_sameInts.l0]
  exact evNeg (by omega) (Ev.now _)
theorem sumT_rng (l : List S65) (h : ∀ t ∈ l, 0 ≤ t.f1 ∧ t.f1 ≤ 1000) : 0 ≤ sumT l ∧ sumT l ≤ 1000 * l.length := by
 induction l with
 | nil => exact ⟨Int.le_refl _, Int.le_refl _⟩
 | cons t l ih =>
  have h1 := h t (List.mem_cons_self ..)
  have h2 := ih (fun x hx => h x (List.mem_cons_of_mem _ hx))
  show 0 ≤ t.f1 + sumT l ∧ t.f1 + sumT l ≤ _
  rw [List.length_cons]
  omega
theorem sumI_rng (f : Int → Int) (l : List Int) (h : ∀ x ∈ l, 0 ≤ f x ∧ f x ≤ 1000) : 0 ≤ sumI f l ∧ sumI f l ≤ 1000 * l.length := by
 induction l with
 | nil => exact ⟨Int.le_refl _, Int.le_refl _⟩
 | cons t l ih =>
  have h1 := h t (List.mem_cons_self ..)
  have h2 := ih (fun x hx => h x (List.mem_cons_of_mem _ hx))
  show 0 ≤ f t + sumI f l ∧ f t + sumI f l ≤ _
  rw [List.length_cons]
  omega
theorem tal_f0 (N X : List Int) (i : Nat) (h : i < (talOf N X).length) (h' : i < N.length) : (talOf N X)[i].f0 = N[i] := by simp [talOf]
theorem FnCounts : laws_FnCounts.Pure := by
 intro code _ _ _
 refine Ev.rounds ?_
 simp only [laws_FnCounts.f, laws_big.f, Option.bind_some]
 by_cases hc : (code.length : Int) > 1048576
 ·exact evPos (by simpa using hc) (Ev.now _)
 refine evNeg (by simpa using hc) ?_
 obtain ⟨L, e, hL, _⟩ := drawEntries code (by omega)
 obtain ⟨pl, epl, hpl, _⟩ := drawPlaces code (by omega)
 refine Ev.bind e (Ev.bind (ev_impl_TalliesOf L (by omega)) (Ev.bind (ev_impl_MostTold L (by omega)) ?_))
 have hT := tallies_len L
 have hP := putAll_len (L.map pidE) []
 rw [List.length_map, List.length_nil] at hP
 have hpos := tallies_pos L
 have hsmall : ∀ t ∈ tallies L, 0 ≤ t.f1 ∧ t.f1 ≤ 1000 := by
  intro t ht
  have h1 := hpos t ht
  unfold tallies talOf at ht
  obtain ⟨n, hn, rfl⟩ := List.mem_map.1 ht
  have h2 := cntI_le n (evsL L)
  have h3 := evsL_len L
  refine ⟨by omega, ?_⟩
  show (cntI n (evsL L) : Int) ≤ 1000
  omega
 have htb : ∀ p, tb p L ≤ 5 := fun p => Nat.le_trans (tb_le p L) hL
 have two : ∀ p, tb p (L ++ L) = 2 * tb p L := by
  intro p
  unfold tb
  rw [List.countP_append]
  omega
 have last : ∀ h, h = true → Ev (fun k => laws_FnCounts.l1 k code L (tallies L) (mostV (tallies L)) (sumT (tallies L)) (bestG (tallies L) 0) h ((tallies L).length : Int)) true := by
  rintro h rfl
  refine evSucc ?_
  simp only [laws_FnCounts.l1]
  refine evNeg (by omega) (Ev.bind (ev_impl_PidsIn L (by omega)) ?_)
  have key := evUp (r := true) (putAll (L.map pidE) []).length (fun i k => laws_FnCounts.l2 k code L (sumT (tallies L)) true (putAll (L.map pidE) []) (sumI (fun p => (tb p L : Int)) ((putAll (L.map pidE) []).take i)) (i : Int)) ?_ ?_
  ·exact key
  ·intro i hi ih
   refine evSucc ?_
   simp only [laws_FnCounts.l2]
   refine evPos (by omega) (evPos (by omega) (Ev.bind (ev_impl_ToldBy L _ (by omega)) ?_))
   have hr := sumI_rng (fun p => (tb p L : Int)) ((putAll (L.map pidE) []).take i) (fun x _ => by have := htb x; show 0 ≤ (tb x L : Int) ∧ (tb x L : Int) ≤ 1000; omega)
   rw [List.length_take] at hr
   have h5 := htb (rd (putAll (L.map pidE) []) (i : Int))
   rw [w64 (x := (i : Int) + 1) (by omega) (by omega), w64 (by omega) (by omega), ci i]
   rw [takeSnoc _ i hi, sumI_snoc] at ih
   rw [rdI _ i hi]
   exact ih
  ·refine evSucc ?_
   simp only [laws_FnCounts.l2, Option.bind_some]
   rw [List.take_length, told_all, List.nil_append]
   refine evNeg (by omega) (evPos (by show ([] : List S131).length + L.length < _; rw [List.length_nil]; omega) (evPos (by omega) (Ev.bind epl (evPos (by omega) (evPos rfl (evPos trivial ?_))))))
   have h2 := htb (Int.tmod (rd pl 0) 3)
   refine Ev.bind (ev_impl_ToldBy (L ++ L) _ (by rw [List.length_append]; omega)) (Ev.bind (ev_impl_ToldBy L _ (by omega)) (evPos ?_ ?_))
   ·rw [two, w64 (by omega) (by omega)]
    omega
   ·refine Ev.bind (ev_impl_PidsIn (L ++ L) (by rw [List.length_append]; omega)) ?_
    rw [List.map_append, twice_pids]
    refine Ev.bind (ev_sameInts _ (by omega)) (evPos rfl (evEq (Ev.now _) ?_))
    cases L with
    | nil => rfl
    | cons x L =>
     have hm := ((putAll_law ((x :: L).map pidE) [] List.Pairwise.nil).2 (pidE x)).2 (Or.inr (List.mem_map.2 ⟨x, List.mem_cons_self .., rfl⟩))
     have hne : (putAll ((x :: L).map pidE) []).length ≠ 0 := fun z => by rw [List.eq_nil_of_length_eq_zero z] at hm; cases hm
     rw [beq_eq_false_iff_ne.2 (show ((x :: L).length : Int) ≠ 0 by rw [List.length_cons]; omega), beq_eq_false_iff_ne.2 (show ((putAll ((x :: L).map pidE) []).length : Int) ≠ 0 by omega)]
     rfl
 have hasLoop : ∀ d i (h : Bool), i + d = (tallies L).length → (h = true ∨ ∃ j, ∃ hj : j < (tallies L).length, i ≤ j ∧ (tallies L)[j].f0 = mostV (tallies L) ∧ (tallies L)[j].f1 = bestG (tallies L) 0) →
  Ev (fun k => laws_FnCounts.l1 k code L (tallies L) (mostV (tallies L)) (sumT (tallies L)) (bestG (tallies L) 0) h (i : Int)) true := by
  intro d
  induction d with
  | zero =>
   intro i h hi hh
   obtain rfl : i = (tallies L).length := by omega
   rcases hh with hh | ⟨j, hj, hij, _⟩
   ·exact last h hh
   ·omega
  | succ d ih =>
   intro i h hi hh
   have hlt : i < (tallies L).length := by omega
   refine evSucc ?_
   simp only [laws_FnCounts.l1]
   rw [rdT _ i hlt, w64 (by omega) (by omega), ci]
   cases h with
   | true => exact evPos (by omega) (evPos rfl (ih (i + 1) true (by omega) (Or.inl rfl)))
   | false =>
    rcases hh with hh | ⟨j, hj, hij, h1, h2⟩
    ·cases hh
    ·refine evPos (by omega) (evNeg (by simp) (evPos (by omega) ?_))
     by_cases hc : (tallies L)[i].f0 = mostV (tallies L)
     ·refine evPos hc (ih (i + 1) _ (by omega) ?_)
      by_cases hji : j = i
      ·subst hji
       exact Or.inl (beq_iff_eq.2 h2)
      ·exact Or.inr ⟨j, hj, by omega, h1, h2⟩
     ·refine evNeg hc (ih (i + 1) false (by omega) (Or.inr ⟨j, hj, ?_, h1, h2⟩))
      have : j ≠ i := fun z => by subst z; exact hc h1
      omega
 have hst := (putAll_law (evsL L) [] List.Pairwise.nil).1
 have first := evUp (r := true) (tallies L).length (fun i k => laws_FnCounts.l0 k code L (tallies L) (mostV (tallies L)) (sumT ((tallies L).take i)) (bestG ((tallies L).take i) 0) (mostV (tallies L) == -1) (i : Int)) ?_ ?_
 ·exact first
 ·intro i hi ih
  have hr := sumT_rng ((tallies L).take i) (fun t ht => hsmall t (List.mem_of_mem_take ht))
  rw [List.length_take] at hr
  have h5 := hsmall (tallies L)[i] (List.getElem_mem hi)
  have inc : ¬ i = 0 → ∀ h : i - 1 < (tallies L).length, ¬ (tallies L)[i - 1].f0 ≥ (tallies L)[i].f0 := by
   intro hi0 h
   have h1 : i < (putAll (evsL L) []).length := by unfold tallies at hi; rw [talOf_len] at hi; exact hi
   have h2 := (List.pairwise_iff_getElem.1 hst) (i - 1) i (by omega) h1 (by omega)
   have e1 : (tallies L)[i - 1].f0 = (putAll (evsL L) [])[i - 1] := tal_f0 _ _ _ h (by omega)
   have e2 : (tallies L)[i].f0 = (putAll (evsL L) [])[i] := tal_f0 _ _ _ hi h1
   rw [e1, e2]
   omega
  rw [takeSnoc _ i hi, sumT_snoc, bestG_snoc] at ih
  refine evSucc ?_
  simp only [laws_FnCounts.l0]
  refine evPos (by omega) (evPos (by omega) ?_)
  rw [rdT _ i hi, w64 (x := (i : Int) + 1) (by omega) (by omega), w64 (x := sumT ((tallies L).take i) + (tallies L)[i].f1) (by omega) (by omega), ci i]
  by_cases hi0 : i = 0
  ·by_cases hb : (tallies L)[i].f1 > bestG ((tallies L).take i) 0
   ·rw [if_pos hb] at ih
    exact evPos hb (evNeg (by omega) ih)
   ·rw [if_neg hb] at ih
    exact evNeg hb (evNeg (by omega) ih)
  ·have hw : wrap64 ((i : Int) - 1) = ((i - 1 : Nat) : Int) := by rw [w64 (by omega) (by omega)]; omega
   have hin := inc hi0 (by omega)
   rw [hw, rdT _ (i - 1) (by omega)]
   by_cases hb : (tallies L)[i].f1 > bestG ((tallies L).take i) 0
   ·rw [if_pos hb] at ih
    exact evPos hb (evPos (by omega) (evPos (by omega) (evPos (by omega) (evNeg hin ih))))
   ·rw [if_neg hb] at ih
    exact evNeg hb (evPos (by omega) (evPos (by omega) (evPos (by omega) (evNeg hin ih))))
 ·refine evSucc ?_
  simp only [laws_FnCounts.l0]
  rw [List.take_length]
  refine evNeg (by omega) (hasLoop (tallies L).length 0 _ (by omega) ?_)
  by_cases h0 : 0 < (tallies L).length
  ·obtain ⟨j, hj, h1, h2⟩ := most_at (tallies L) hpos h0
   exact Or.inr ⟨j, hj, by omega, h1, h2⟩
  ·refine Or.inl ?_
   rw [List.eq_nil_of_length_eq_zero (show (tallies L).length = 0 by omega)]
   rfl

end Go.Proofs.Ytmjlhikflhbdaaa.Pure

namespace Go.Proofs.Ytmjlhikflhbdaaa.fnCounts
open Go.ChangeShapes Go.WideShapes Go.ChangeAt Go.RowKit
open Go.ChangeMaps (open_string shut_string)
set_option linter.unusedVariables false
theorem own : ownKnob Try.prog.godebug = none := by kernel_rfl
theorem laidOut : laidOutB Try.prog = true := by kernel_rfl
def IsRow (k : IntKind) (w : World) (a : Option Addr) (len cap : Nat) (zs : List Int) : Prop :=
 (a = none ∧ len = 0 ∧ cap = 0 ∧ zs = []) ∨
 ∃ x, a = some x ∧ len ≤ cap ∧ cap ≤ maxLen ∧ zs.length = cap ∧ (∀ i, i < zs.length → w.cell? (x.add i) = some (.int k (zs.getD i 0))) ∧ ∀ n ∈ zs, (Lit.int k n).wf = true
set_option maxRecDepth 100000 in
theorem lifted (os : Os) (started : os.Started) (H : Type) (enc : TypeId × Value → H) :
 ReturnsInHanded {} Try.checked os 10 .any (Rows.fnCountsSpec.pre6 enc Try.prog Try.f10 Rows.fnCountsRow.domain false) (Rows.fnCountsSpec.post enc Try.prog Try.f10 false true false false) := by
 refine returnsInHanded_of_change_sized (C := Try.checked) own started (by kernel_rfl) Try.func10
  (ChangeSpec.witness6 (enc := enc) (C := Try.checked) false ⟨#[], #[.slice none 0 0], []⟩ 8 (by kernel_rfl) (by kernel_rfl) (by kernel_rfl) (by kernel_rfl)) ?_
 intro W base args ds gs before hval0 hW hcnd hsz0 _
 have hsz : (DataW.weightsEach Try.prog (Try.f10.params.toList ++ Rows.fnCountsSpec.plain.varTypes Try.prog) (ds ++ gs)).all (· ≤ reachBytes) = true := hsz0
 have hval : ∀ (j : Nat) t v, Try.f10.params[j]? = some t → args[j]? = some v → Value.okWide Try.prog W .any base t v := hval0
 have hW' := hW
 obtain ⟨p, q, hA0, hV, rfl, hfz, hnd⟩ := hW
 have hA : DataW.TrodAll enc Try.prog W 0 (fun _ => true) true Try.f10.params.toList args.toList ds p := hA0
 rw [Try.params10] at hA hval hsz
 obtain ⟨v0, vs0, d0, ds0, p0, q0, hargs, rfl, rfl, h0, r0⟩ := trodAll_cons hA
 obtain ⟨rfl, rfl, rfl⟩ := trodAll_nil r0
 obtain rfl : args = #[v0] := by cases args; simp_all
 obtain ⟨rfl, rfl⟩ := trodVars_none hV
 obtain ⟨a0, len0, cap0, rfl⟩ := okWide_slice Try.underlying30 (hval 0 30 v0 rfl rfl)
 have k0 := h0
 have lt0 : ∀ x ∈ p0, x.block < W.heap.size := by obtain ⟨m, hm⟩ := k0; exact DataW.trod_lt m _ _ _ hm
 obtain ⟨z0, w0⟩ : ∃ zs, IsRow .u8 W a0 len0 cap0 zs := by
  obtain ⟨fuel, hf⟩ := h0
  rcases open_ints Try.underlying30 Try.underlying5 (by kernel_rfl) hf with ⟨hcs, _⟩ | ⟨x, l, c, zs, hcs, _, hl, hm, hz, _, hcell, hwz⟩
  ·simp [Value.cells] at hcs
   obtain ⟨rfl, rfl, rfl⟩ := hcs
   exact ⟨[], .inl ⟨rfl, rfl, rfl, rfl⟩⟩
  ·simp [Value.cells] at hcs
   obtain ⟨rfl, rfl, rfl⟩ := hcs
   exact ⟨zs, .inr ⟨_, rfl, hl, hm, by simpa using hz, hcell, hwz⟩⟩
 have y0 : len0 * 1 ≤ 140737488351232 := Go.Proofs.YtmjlhikflhbdaaaW.PrintWords.sized_ints hsz (j := 0) (t := 30) rfl rfl Try.underlying30 Try.underlying5 (by kernel_rfl) (by kernel_rfl) h0
 clear hA0 hval0 hsz0 hsz
 refine (PA.laws_FnCounts.walk Pure.FnCounts a0 len0 cap0 z0 W w0 y0).mono fun e W' ⟨he, bel⟩ => ?_
 subst he
 exact ⟨_, rfl, _, _, _, [], _, [], hW', trodAll_mk1 (shut_bool Try.underlying4 _), (trodAll_cons_mk (Below.trod laidOut (by kernel_rfl) (of_decide_eq_true (by kernel_rfl)) k0 bel lt0) trodAll_mk0), rfl, bel.frame _, fun h => by cases h⟩
theorem over : Rows.fnCountsRow.holds Try.pinned (OpenSpec.ofChange Rows.fnCountsSpec) :=
 OpenClaim.holds_of_wide 10 Try.f10 rfl rfl rfl rfl rfl rfl rfl ⟨rfl, rfl, rfl, rfl, rfl⟩ rfl rfl rfl rfl rfl (by kernel_rfl) Try.func10 (by kernel_rfl)
  (of_decide_eq_true (by kernel_rfl)) (by unfold Func.isWrapper; first | (rw [if_pos (by decide +kernel)]; kernel_rfl) | (rw [if_neg (by decide +kernel)]; exact ⟨rfl, rfl⟩))
  (fun os started H enc _ => lifted os started H enc)
theorem proved : Rows.FnCountsSaid := over
#print axioms proved
end Go.Proofs.Ytmjlhikflhbdaaa.fnCounts
namespace Go.Proofs.Ytmjlhikflhbdaaa
/-- The row, under a short name, for the claim. -/
theorem fnCounts_holds : Rows.FnCountsSaid := fnCounts.proved
end Go.Proofs.Ytmjlhikflhbdaaa

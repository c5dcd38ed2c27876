/- Contracts of functions of the program and of the reference, and plain lemmas on what they compute: a part of the proof of the law FnCallTextsTold. No condition. -/
import Derived.Test.YtmjlhikflhbdaaaGabbbex0
import Derived.Test.YtmjlhikflhbdaaaG0ccc4x0
import Derived.Test.YtmjlhikflhbdaaaG909c1x1
import Derived.Test.YtmjlhikflhbdaaaGe172dx0
import Derived.Test.YtmjlhikflhbdaaaGd7e28x0
import Derived.Test.YtmjlhikflhbdaaaGd7e28x1
import Derived.Test.YtmjlhikflhbdaaaJFnCallTextsTold1
import Derived.Test.YtmjlhikflhbdaaaJFnCallTextsTold2
import Derived.Test.YtmjlhikflhbdaaaV0
import Derived.Test.YtmjlhikflhbdaaaShortV
namespace Go.Proofs.Ytmjlhikflhbdaaa.PA
open Go.RowKit Go.Proofs.Ytmjlhikflhbdaaa.Short Go.Proofs.YtmjlhikflhbdaaaW.PrintWords Go.Proofs.YtmjlhikflhbdaaaW.PrintLast Go.Proofs.YtmjlhikflhbdaaaW.PrintMore
attribute [local go_sem] max2_int min2_int max_two min_two max_three min_three max_four min_four   -- for this text's walks alone
set_option linter.unusedVariables false
set_option linter.unusedSimpArgs false

/-! ### laws_FnCallTextsTold: function 5 -/
def laws_FnCallTextsTold.f (k : Nat) (l0 : List Int) : Option (Bool) := (laws_big.f l0).bind fun t583 => (if t583 = true then (some true) else ((spec_DrawCallText.f k l0).bind fun bt584 => ((impl_CallText.f k bt584.1 bt584.2.1 bt584.2.2).bind fun bt590 => ((spec_CallText.f k bt584.1 bt584.2.1 bt584.2.2).bind fun bt592 => ((spec_DrawReadCall.f k l0).bind fun t594 => ((impl_ReadCall.f k t594).bind fun bt595 => ((spec_ReadCall.f k t594).bind fun bt602 => ((spec_DrawReadCallLine.f k l0).bind fun bt609 => ((impl_ReadCallLine.f k bt609.1 bt609.2).bind fun bt611 => ((spec_ReadCallLine.f k bt609.1 bt609.2).bind fun bt618 => (if bt590.1.toList = bt592.1.toList then (if (bt590.2 == bt592.2) = true then (if (bt595.2.2.2 == bt602.2.2.2) = true then ((laws_sameCall.f k bt595.1 bt595.2.1 bt595.2.2.1 bt602.1 bt602.2.1 bt602.2.2.1).bind fun t625 => (if t625 = true then (if (bt611.2.2.2 == bt618.2.2.2) = true then ((laws_sameCall.f k bt611.1 bt611.2.1 bt611.2.2.1 bt618.1 bt618.2.1 bt618.2.2.1).bind fun t626 => (if t626 = true then ((impl_ShowCall.f k bt584.1 bt584.2.1 bt584.2.2).bind fun t627 => ((spec_ShowCall.f k bt584.1 bt584.2.1 bt584.2.2).bind fun t628 => (some (t627.toList == t628.toList)))) else (some false))) else (some false)) else (some false))) else (some false)) else (some false)) else (some false))))))))))))
theorem laws_FnCallTextsTold.mono : ∀ a0 k, LeO (laws_FnCallTextsTold.f k a0) (laws_FnCallTextsTold.f (k + 1) a0) := by
 intro a0 k
 unfold laws_FnCallTextsTold.f
 repeat' first
  | (with_reducible exact impl_CallText.mono _ _ _ _)
  | (with_reducible exact impl_ReadCall.mono _ _)
  | (with_reducible exact impl_ReadCallLine.mono _ _ _)
  | (with_reducible exact impl_ShowCall.mono _ _ _ _)
  | (with_reducible exact laws_sameCall.mono _ _ _ _ _ _ _)
  | (with_reducible exact spec_CallText.mono _ _ _ _)
  | (with_reducible exact spec_DrawCallText.mono _ _)
  | (with_reducible exact spec_DrawReadCall.mono _ _)
  | (with_reducible exact spec_DrawReadCallLine.mono _ _)
  | (with_reducible exact spec_ReadCall.mono _ _)
  | (with_reducible exact spec_ReadCallLine.mono _ _ _)
  | (with_reducible exact spec_ShowCall.mono _ _ _ _)
  | (with_reducible exact LeO.refl _)
  | (with_reducible exact LeO.none _)
  | (with_reducible refine LeO.ite ?_ ?_)
  | (with_reducible refine LeO.bind ?_ (fun _ => ?_))
  | exact impl_CallText.mono _ _ _ _
  | exact impl_ReadCall.mono _ _
  | exact impl_ReadCallLine.mono _ _ _
  | exact impl_ShowCall.mono _ _ _ _
  | exact laws_sameCall.mono _ _ _ _ _ _ _
  | exact spec_CallText.mono _ _ _ _
  | exact spec_DrawCallText.mono _ _
  | exact spec_DrawReadCall.mono _ _
  | exact spec_DrawReadCallLine.mono _ _
  | exact spec_ReadCall.mono _ _
  | exact spec_ReadCallLine.mono _ _ _
  | exact spec_ShowCall.mono _ _ _ _
  | exact LeO.none _
  | refine LeO.ite ?_ ?_
  | refine LeO.bind ?_ (fun _ => ?_)
def laws_FnCallTextsTold.T12 : Bool × List (List Nat × List Nat) := (true, [([], []), ([], []), ([0, 1], [0, 1]), ([2], [2]), ([3], [3]), ([3], [3]), ([4, 5, 3], [3, 4, 5]), ([3, 6], [3, 6]), ([7, 3], [7]), ([8], [8]), ([8], [8]), ([9, 10, 8], [8, 9, 10]), ([8, 11], [8, 11]), ([12, 8], [12]), ([13], [13]), ([13], [13]), ([14, 15, 13, 13], [13, 14, 15]), ([13, 16], [13, 16]), ([17, 16], [17]), ([18], [18]), ([18], [18]), ([19, 20, 18], [18, 19, 20]), ([18, 21], [18, 21]), ([22, 18], [22]), ([23], [23]), ([23], [23]), ([24, 25, 23, 23], [23, 24, 25]), ([23, 26], [23, 26]), ([27, 26], [27]), ([28], [28]), ([29, 28, 28], [28, 29]), ([28], [28]), ([31, 30, 28], [28, 31]), ([30, 32, 28], [28, 30, 32]), ([28, 33], [28, 33]), ([34, 32, 0, 1, 2, 3, 4, 5, 6, 7, 8, 9, 10, 11, 12, 13, 14, 15, 16, 17, 18, 19, 20, 21, 22, 23, 24, 25, 26, 27, 28, 29, 30, 31, 32, 33, 34], [34])])
def laws_FnCallTextsTold.B12 : List Nat := [0, 0, 3, 7, 15, 15, 63, 127, 255, 511, 511, 2047, 4095, 8191, 16383, 16383, 65535, 131071, 262143, 524287, 524287, 2097151, 4194303, 8388607, 16777215, 16777215, 67108863, 134217727, 268435455, 536870911, 1073741823, 536870911, 4294967295, 8589934591, 17179869183, 34359738367]
theorem laws_FnCallTextsTold.tab12 : rtab .any (opsOf Try.f5 12) = laws_FnCallTextsTold.T12 := by kernel_rfl
theorem laws_FnCallTextsTold.bits12 : waitsOk laws_FnCallTextsTold.T12.2 laws_FnCallTextsTold.B12 = true := by kernel_rfl
set_option maxHeartbeats 8000000 in
set_option maxRecDepth 100000 in
theorem laws_FnCallTextsTold.calls (k : Nat) (A0 : Option Addr) (c0 : Nat) (l0 : List Int) (r : Bool) (w : World) (hr0 : Kd.C (Kd.int .u8) w A0 l0.length l0) (hc0 : l0.length ≤ c0) (hr1 : r = true) (h : laws_FnCallTextsTold.f k l0 = some r) :
 Calls Try.prog 5 #[.slice A0 l0.length c0] w fun e w' => e = .returned (.bool r) ∧ Below w.heap.size w w' := by
 have hu24 := Try.underlying24
 have HR0 := Aside0.mk hr0
 have HC0 := Aside0.mk hc0
 clear hr0 hc0
 have HR1 := Aside0.mk hr1
 clear hr1
 have HB := Aside0.mk (Below.refl w.heap.size w)
 have H : ((laws_big.f l0).bind fun t583 => (if t583 = true then (some true) else ((spec_DrawCallText.f k l0).bind fun bt584 => ((impl_CallText.f k bt584.1 bt584.2.1 bt584.2.2).bind fun bt590 => ((spec_CallText.f k bt584.1 bt584.2.1 bt584.2.2).bind fun bt592 => ((spec_DrawReadCall.f k l0).bind fun t594 => ((impl_ReadCall.f k t594).bind fun bt595 => ((spec_ReadCall.f k t594).bind fun bt602 => ((spec_DrawReadCallLine.f k l0).bind fun bt609 => ((impl_ReadCallLine.f k bt609.1 bt609.2).bind fun bt611 => ((spec_ReadCallLine.f k bt609.1 bt609.2).bind fun bt618 => (if bt590.1.toList = bt592.1.toList then (if (bt590.2 == bt592.2) = true then (if (bt595.2.2.2 == bt602.2.2.2) = true then ((laws_sameCall.f k bt595.1 bt595.2.1 bt595.2.2.1 bt602.1 bt602.2.1 bt602.2.2.1).bind fun t625 => (if t625 = true then (if (bt611.2.2.2 == bt618.2.2.2) = true then ((laws_sameCall.f k bt611.1 bt611.2.1 bt611.2.2.1 bt618.1 bt618.2.1 bt618.2.2.1).bind fun t626 => (if t626 = true then ((impl_ShowCall.f k bt584.1 bt584.2.1 bt584.2.2).bind fun t627 => ((spec_ShowCall.f k bt584.1 bt584.2.1 bt584.2.2).bind fun t628 => (some (t627.toList == t628.toList)))) else (some false))) else (some false)) else (some false))) else (some false)) else (some false)) else (some false))))))))))))) = some r := h
 clear h
 replace H := Option.bind_eq_some_iff.mp H
 obtain ⟨t583, A20, H⟩ := H
 try dsimp only at H
 have A2 := Aside0.mk A20
 clear A20
 by_cases c3 : t583 = true
 ·subst c3
  rw [if_pos rfl] at H
  obtain rfl := Option.some.inj H
  go_enter Try.func5, Try.ntmps5
  go_wp2_with (first | ((with_reducible refine gate_callee (f := 20) rfl ?_); refine goesL_ (some 20) rfl rfl Try.func20 (by kernel_rfl) rfl #[.slice A0 l0.length c0] rfl lm_ ?_; (with_reducible refine (laws_big.calls _ _ l0 true _ ?side1 ?side2 A2.out).mono ?_); (case side1 => repeat (first | exact HR0.out | (with_reducible refine Kd.C_alloc ?_ _) | (with_reducible refine Kd.C_drewN ?_ _) | (with_reducible refine Kd.C_drew ?_))); (case side2 => exact HC0.out); rintro e w' ⟨rfl, ⟨nd, rfl⟩⟩; refine ⟨_, rfl, ?_⟩))
  go_ret
  exact ⟨by first | rfl | (simp [errW_none, errW_some] <;> rfl) | (simp [*, errW_none, errW_some] <;> rfl) | exact False.elim (Bool.noConfusion ((decide_eq_true (of_eq_true (by assumption))).symm.trans (by assumption))), bl_⟩
 ·replace c3 := Bool.eq_false_iff.mpr c3
  subst c3
  rw [if_neg (show ¬ (false = true) by decide)] at H
  replace H := Option.bind_eq_some_iff.mp H
  obtain ⟨⟨t584, t585, t586⟩, A40, H⟩ := H
  try dsimp only at H
  have A4 := Aside0.mk A40
  clear A40
  replace H := Option.bind_eq_some_iff.mp H
  obtain ⟨⟨t590, t591⟩, A50, H⟩ := H
  try dsimp only at H
  have A5 := Aside0.mk A50
  clear A50
  replace H := Option.bind_eq_some_iff.mp H
  obtain ⟨⟨t592, t593⟩, A60, H⟩ := H
  try dsimp only at H
  have A6 := Aside0.mk A60
  clear A60
  replace H := Option.bind_eq_some_iff.mp H
  obtain ⟨t594, A70, H⟩ := H
  try dsimp only at H
  have A7 := Aside0.mk A70
  clear A70
  replace H := Option.bind_eq_some_iff.mp H
  obtain ⟨⟨t595, t596, t597, t600⟩, A80, H⟩ := H
  try dsimp only at H
  have A8 := Aside0.mk A80
  clear A80
  replace H := Option.bind_eq_some_iff.mp H
  obtain ⟨⟨t602, t603, t604, t607⟩, A90, H⟩ := H
  try dsimp only at H
  have A9 := Aside0.mk A90
  clear A90
  replace H := Option.bind_eq_some_iff.mp H
  obtain ⟨⟨t609, t610⟩, A100, H⟩ := H
  try dsimp only at H
  have A10 := Aside0.mk A100
  clear A100
  replace H := Option.bind_eq_some_iff.mp H
  obtain ⟨⟨t611, t612, t613, t616⟩, A110, H⟩ := H
  try dsimp only at H
  have A11 := Aside0.mk A110
  clear A110
  replace H := Option.bind_eq_some_iff.mp H
  obtain ⟨⟨t618, t619, t620, t623⟩, A120, H⟩ := H
  try dsimp only at H
  have A12 := Aside0.mk A120
  clear A120
  by_cases c13 : t590.toList = t592.toList
  ·rw [if_pos c13] at H
   have c13b0 : (t590.toList == t592.toList) = true := beq_iff_eq.mpr c13
   have c13b1 : (t590.toList != t592.toList) = false := bne_eq_false_iff_eq.mpr c13
   clear c13
   by_cases c14 : (t591 == t593) = true
   ·rw [if_pos c14] at H
    have c14b0 : (t591 == t593) = true := c14
    (try (have c14b1 : decide (t591 = t593) = true := by simpa using c14))
    (try (have c14b2 : (t591 == t593) = true := by simpa using c14))
    clear c14
    by_cases c15 : (t600 == t607) = true
    ·rw [if_pos c15] at H
     have c15b0 : (t600 == t607) = true := c15
     (try (have c15b1 : decide (t600 = t607) = true := by simpa using c15))
     (try (have c15b2 : (t600 == t607) = true := by simpa using c15))
     clear c15
     replace H := Option.bind_eq_some_iff.mp H
     obtain ⟨t625, A160, H⟩ := H
     try dsimp only at H
     have A16 := Aside0.mk A160
     clear A160
     by_cases c17 : t625 = true
     ·subst c17
      rw [if_pos rfl] at H
      by_cases c18 : (t616 == t623) = true
      ·rw [if_pos c18] at H
       have c18b0 : (t616 == t623) = true := c18
       (try (have c18b1 : decide (t616 = t623) = true := by simpa using c18))
       (try (have c18b2 : (t616 == t623) = true := by simpa using c18))
       clear c18
       replace H := Option.bind_eq_some_iff.mp H
       obtain ⟨t626, A190, H⟩ := H
       try dsimp only at H
       have A19 := Aside0.mk A190
       clear A190
       by_cases c20 : t626 = true
       ·subst c20
        rw [if_pos rfl] at H
        replace H := Option.bind_eq_some_iff.mp H
        obtain ⟨t627, A210, H⟩ := H
        try dsimp only at H
        have A21 := Aside0.mk A210
        clear A210
        replace H := Option.bind_eq_some_iff.mp H
        obtain ⟨t628, A220, H⟩ := H
        try dsimp only at H
        have A22 := Aside0.mk A220
        clear A220
        obtain rfl := Option.some.inj H
        go_enter Try.func5, Try.ntmps5
        try go_wp2_with (first | ((with_reducible refine gate_callee (f := 20) rfl ?_); refine goesL_ (some 20) rfl rfl Try.func20 (by kernel_rfl) rfl #[.slice A0 l0.length c0] rfl lm_ ?_; (with_reducible refine (laws_big.calls _ _ l0 false _ ?side1 ?side2 A2.out).mono ?_); (case side1 => repeat (first | exact HR0.out | (with_reducible refine Kd.C_alloc ?_ _) | (with_reducible refine Kd.C_drewN ?_ _) | (with_reducible refine Kd.C_drew ?_))); (case side2 => exact HC0.out); rintro e w' ⟨rfl, ⟨nd, rfl⟩⟩; refine ⟨_, rfl, ?_⟩) | ((with_reducible refine gate_callee (f := 27) rfl ?_); refine goesL_ (some 22) rfl rfl Try.func27 (by kernel_rfl) rfl #[.slice A0 l0.length c0] rfl lm_ ?_; (with_reducible refine (spec_DrawCallText.calls k _ _ l0 t584 t585 t586 _ ?side1 ?side2 A4.out).mono ?_); (case side1 => repeat (first | exact HR0.out | (with_reducible refine Kd.C_alloc ?_ _) | (with_reducible refine Kd.C_drewN ?_ _) | (with_reducible refine Kd.C_drew ?_))); (case side2 => exact HC0.out); rintro e w23 ⟨v587, rfl, ho0, hb⟩; refine ⟨_, rfl, ?_⟩; have n0_ := Aside0.mk (Kd.Q_lower ho0 (below_size bl_)); have n1_ := Aside0.mk (below_step bl_ hb); clear HB; have HO588 := n0_; have HB := n1_; clear n0_ n1_; (try clear hb); (try clear hb2); (try clear hk); (try clear hi); (try clear ho0)) | ((with_reducible refine gate_dst (N := 3) rfl ?_); refine box_event ?hg (N := 3) ?hd (cs := #[.int .i64 0, .int .i64 0, .slice none 0 0]) (t := 24) ?hr ?_; (case hd => rfl); (case hg => rfl); (case hr => first | (go_simp; done) | (go_simp; rfl)); intro gb589 hg w24 hbox hb; have n0_ := Aside0.mk (Kd.Q_below (by (with_reducible repeat (first | apply Kd.Q_alloc | apply Kd.Q_drewN | apply Kd.Q_drew)); exact HO588.out) hb); have n1_ := Aside0.mk (below_step bl_ hb); have n2_ := Aside0.mk (hbox); have n3_ := Aside0.mk ((hz_ : w.heap.size ≤ gb589)); have n4_ := Aside0.mk ((hz_ : w.heap.size ≤ gb589)); clear HO588; clear HB; have HO588 := n0_; have HB := n1_; have BK589 := n2_; have GW589 := n3_; have GE589 := n4_; clear n0_ n1_ n2_ n3_ n4_; clear hb hbox hg; have hcz25_0 : w24.cell? ⟨gb589, 0, none⟩ = some (.int .i64 0) := (blk_cell BK589.out 0).trans rfl; have hcz25_1 : w24.cell? ⟨gb589, 1, none⟩ = some (.int .i64 0) := (blk_cell BK589.out 1).trans rfl; have hcz25_2 : w24.cell? ⟨gb589, 2, none⟩ = some (.slice none 0 0) := (blk_cell BK589.out 2).trans rfl; have hfz25_0 := blk_frozen BK589.out 0; have hfz25_1 := blk_frozen BK589.out 1; have hfz25_2 := blk_frozen BK589.out 2; obtain ⟨Ao26, co26, eo26, _⟩ := Kd.Q_slice HO588.out; subst eo26) | ((with_reducible refine gate_callee (f := 23) rfl ?_); refine goesL_ (some 25) rfl rfl Try.func23 (by kernel_rfl) rfl #[.agg #[.int .i64 t584, .int .i64 t585, .slice Ao26 t586.length co26]] rfl lm_ ?_; (with_reducible refine (impl_CallText.calls k t584 t585 _ _ t586 t590 t591 _ ?side1 ?side2 A5.out).mono ?_); (case side1 => refine (Kd.Q_reads' (e := 103) (base := w.heap.size) (ok := fun k_ => True) (n := t586.length) (c := co26) ?_).2.2; exact (by (with_reducible repeat (first | apply Kd.Q_alloc | apply Kd.Q_drewN | apply Kd.Q_drew)); exact (Kd.Q_mono (Kd.Q_far (p := ⟨gb589, 2, none⟩) (Kd.Q_far (p := ⟨gb589, 1, none⟩) (Kd.Q_far (p := ⟨gb589, 0, none⟩) (Kd.Q_types HO588.out BK589.out (by decide)) (fun _ hk => hk.2) (.int .i64 t584)) (fun _ hk => hk.2) (.int .i64 t585)) (fun _ hk => hk.2) (.slice Ao26 t586.length co26)) (fun _ h_ => h_.1)))); (case side2 => exact (Kd.Q_reads' HO588.out).2.1); rintro e w27 ⟨rfl, hb⟩; refine ⟨_, rfl, ?_⟩; have n0_ := Aside0.mk (Kd.Q_below (by (with_reducible repeat (first | apply Kd.Q_alloc | apply Kd.Q_drewN | apply Kd.Q_drew)); exact (Kd.Q_mono (Kd.Q_far (p := ⟨gb589, 2, none⟩) (Kd.Q_far (p := ⟨gb589, 1, none⟩) (Kd.Q_far (p := ⟨gb589, 0, none⟩) (Kd.Q_types HO588.out BK589.out (by decide)) (fun _ hk => hk.2) (.int .i64 t584)) (fun _ hk => hk.2) (.int .i64 t585)) (fun _ hk => hk.2) (.slice Ao26 t586.length co26)) (fun _ h_ => h_.1))) hb); have n1_ := Aside0.mk (blk_below (g := gb589) (o := .cells #[.int .i64 t584, .int .i64 t585, .slice Ao26 t586.length co26] 24 (0, 0)) (by (with_reducible repeat (first | refine blk_drewN ?_ _ | refine blk_drew ?_ | refine blk_alloc ?_ _)); refine blk_put (cs := #[.int .i64 t584, .int .i64 t585, .slice none 0 0]) ?_ 2 _ rfl; (with_reducible repeat (first | refine blk_drewN ?_ _ | refine blk_drew ?_ | refine blk_alloc ?_ _)); refine blk_put (cs := #[.int .i64 t584, .int .i64 0, .slice none 0 0]) ?_ 1 _ rfl; (with_reducible repeat (first | refine blk_drewN ?_ _ | refine blk_drew ?_ | refine blk_alloc ?_ _)); refine blk_put (cs := #[.int .i64 0, .int .i64 0, .slice none 0 0]) ?_ 0 _ rfl; (with_reducible repeat (first | refine blk_drewN ?_ _ | refine blk_drew ?_ | refine blk_alloc ?_ _)); exact BK589.out) hb); have n2_ := Aside0.mk (below_step bl_ hb); clear HO588; clear BK589; clear HB; have HO588 := n0_; have BK589 := n1_; have HB := n2_; clear n0_ n1_ n2_; (try clear hb); (try clear hb2); (try clear hk); (try clear hi); have hcz28_0 : w27.cell? ⟨gb589, 0, none⟩ = some (.int .i64 t584) := (blk_cell BK589.out 0).trans rfl; have hcz28_1 : w27.cell? ⟨gb589, 1, none⟩ = some (.int .i64 t585) := (blk_cell BK589.out 1).trans rfl; have hcz28_2 : w27.cell? ⟨gb589, 2, none⟩ = some (.slice Ao26 t586.length co26) := (blk_cell BK589.out 2).trans rfl; have hfz28_0 := blk_frozen BK589.out 0; have hfz28_1 := blk_frozen BK589.out 1; have hfz28_2 := blk_frozen BK589.out 2) | ((with_reducible refine gate_callee (f := 28) rfl ?_); refine goesL_ (some 30) rfl rfl Try.func28 (by kernel_rfl) rfl #[.agg #[.int .i64 t584, .int .i64 t585, .slice Ao26 t586.length co26]] rfl lm_ ?_; (with_reducible refine (spec_CallText.calls k t584 t585 _ _ t586 t592 t593 _ ?side1 ?side2 A6.out).mono ?_); (case side1 => repeat (first | exact (Kd.Q_reads' HO588.out).2.2 | (with_reducible refine Kd.C_alloc ?_ _) | (with_reducible refine Kd.C_drewN ?_ _) | (with_reducible refine Kd.C_drew ?_))); (case side2 => exact (Kd.Q_reads' HO588.out).2.1); rintro e w29 ⟨rfl, hb⟩; refine ⟨_, rfl, ?_⟩; have n0_ := Aside0.mk (Kd.Q_below (by (with_reducible repeat (first | apply Kd.Q_alloc | apply Kd.Q_drewN | apply Kd.Q_drew)); exact HO588.out) hb); have n1_ := Aside0.mk (blk_below (g := gb589) (o := .cells #[.int .i64 t584, .int .i64 t585, .slice Ao26 t586.length co26] 24 (0, 0)) (bk_ BK589.out) hb); have n2_ := Aside0.mk (below_step bl_ hb); clear HO588; clear BK589; clear HB; have HO588 := n0_; have BK589 := n1_; have HB := n2_; clear n0_ n1_ n2_; (try clear hb); (try clear hb2); (try clear hk); (try clear hi)) | ((with_reducible refine gate_callee (f := 29) rfl ?_); refine goesL_ (some 34) rfl rfl Try.func29 (by kernel_rfl) rfl #[.slice A0 l0.length c0] rfl lm_ ?_; (with_reducible refine (spec_DrawReadCall.calls k _ _ l0 t594 _ ?side1 ?side2 A7.out).mono ?_); (case side1 => repeat (first | exact (Kd.C_below HR0.out HB.out) | exact HR0.out | (with_reducible refine Kd.C_alloc ?_ _) | (with_reducible refine Kd.C_drewN ?_ _) | (with_reducible refine Kd.C_drew ?_))); (case side2 => exact HC0.out); rintro e w30 ⟨rfl, hb⟩; refine ⟨_, rfl, ?_⟩; have n0_ := Aside0.mk (Kd.Q_below (by (with_reducible repeat (first | apply Kd.Q_alloc | apply Kd.Q_drewN | apply Kd.Q_drew)); exact HO588.out) hb); have n1_ := Aside0.mk (blk_below (g := gb589) (o := .cells #[.int .i64 t584, .int .i64 t585, .slice Ao26 t586.length co26] 24 (0, 0)) (bk_ BK589.out) hb); have n2_ := Aside0.mk (below_step bl_ hb); clear HO588; clear BK589; clear HB; have HO588 := n0_; have BK589 := n1_; have HB := n2_; clear n0_ n1_ n2_; (try clear hb); (try clear hb2); (try clear hk); (try clear hi)) | ((with_reducible refine gate_callee (f := 25) rfl ?_); refine goesL_ (some 37) rfl rfl Try.func25 (by kernel_rfl) rfl #[.string t594] rfl lm_ ?_; (with_reducible refine (impl_ReadCall.calls k t594 t595 t596 t597 t600 _ A8.out).mono ?_); rintro e w31 ⟨v598, rfl, ho0, hb⟩; refine ⟨_, rfl, ?_⟩; have n0_ := Aside0.mk (Kd.Q_elder' (by (with_reducible repeat (first | apply Kd.Q_alloc | apply Kd.Q_drewN | apply Kd.Q_drew)); exact HO588.out) (Kd.R_base ho0) hb); have n1_ := Aside0.mk (Kd.R_lower (Kd.R_new' ho0 (Kd.Q_lt (by (with_reducible repeat (first | apply Kd.Q_alloc | apply Kd.Q_drewN | apply Kd.Q_drew)); exact HO588.out))) (below_size bl_)); have n2_ := Aside0.mk (blk_below (g := gb589) (o := .cells #[.int .i64 t584, .int .i64 t585, .slice Ao26 t586.length co26] 24 (0, 0)) (bk_ BK589.out) hb); have n3_ := Aside0.mk (below_step bl_ hb); clear HO588; clear BK589; clear HB; have HO588 := n0_; have HO599 := n1_; have BK589 := n2_; have HB := n3_; clear n0_ n1_ n2_ n3_; (try clear hb); (try clear hb2); (try clear hk); (try clear hi); (try clear ho0)) | ((with_reducible refine gate_dst (N := 9) rfl ?_); refine box_event ?hg (N := 9) ?hd (cs := #[.int .i64 0, .int .i64 0, .slice none 0 0]) (t := 24) ?hr ?_; (case hd => rfl); (case hg => rfl); (case hr => first | (go_simp; done) | (go_simp; rfl)); intro gb601 hg w32 hbox hb; have n0_ := Aside0.mk (Kd.Q_below (by (with_reducible repeat (first | apply Kd.Q_alloc | apply Kd.Q_drewN | apply Kd.Q_drew)); exact HO588.out) hb); have n1_ := Aside0.mk (Kd.R_below (ra_ HO599.out) hb); have n2_ := Aside0.mk (blk_below (g := gb589) (o := .cells #[.int .i64 t584, .int .i64 t585, .slice Ao26 t586.length co26] 24 (0, 0)) (bk_ BK589.out) hb); have n3_ := Aside0.mk (below_step bl_ hb); have n4_ := Aside0.mk (hbox); have n5_ := Aside0.mk ((hz_ : w.heap.size ≤ gb601)); have n6_ := Aside0.mk ((hz_ : w.heap.size ≤ gb601)); have n7_ := Aside0.mk ((by rw [hg]; exact Nat.ne_of_lt (blk_lt (g := gb589) (o := .cells #[.int .i64 t584, .int .i64 t585, .slice Ao26 t586.length co26] 24 (0, 0)) (bk_ BK589.out)) : gb589 ≠ gb601)); have n8_ := Aside0.mk ((by rw [hg]; exact Nat.ne_of_gt (blk_lt (g := gb589) (o := .cells #[.int .i64 t584, .int .i64 t585, .slice Ao26 t586.length co26] 24 (0, 0)) (bk_ BK589.out)) : gb601 ≠ gb589)); clear HO588; clear HO599; clear BK589; clear HB; have HO588 := n0_; have HO599 := n1_; have BK589 := n2_; have HB := n3_; have BK601 := n4_; have GW601 := n5_; have GE601 := n6_; have NB589_601 := n7_; have NB601_589 := n8_; clear n0_ n1_ n2_ n3_ n4_ n5_ n6_ n7_ n8_; clear hb hbox hg; have hnb33 := NB601_589.out; have hnc33 := NB589_601.out; have hcz34_0 : w32.cell? ⟨gb601, 0, none⟩ = some (.int .i64 0) := (blk_cell BK601.out 0).trans rfl; have hcz34_1 : w32.cell? ⟨gb601, 1, none⟩ = some (.int .i64 0) := (blk_cell BK601.out 1).trans rfl; have hcz34_2 : w32.cell? ⟨gb601, 2, none⟩ = some (.slice none 0 0) := (blk_cell BK601.out 2).trans rfl; have hfz34_0 := blk_frozen BK601.out 0; have hfz34_1 := blk_frozen BK601.out 1; have hfz34_2 := blk_frozen BK601.out 2; obtain ⟨Ao35, co35, eo35⟩ := Kd.R_slice HO599.out; subst eo35) | ((with_reducible refine gate_callee (f := 30) rfl ?_); refine goesL_ (some 42) rfl rfl Try.func30 (by kernel_rfl) rfl #[.string t594] rfl lm_ ?_; (with_reducible refine (spec_ReadCall.calls k t594 t602 t603 t604 t607 _ A9.out).mono ?_); rintro e w36 ⟨v605, rfl, ho0, hb⟩; refine ⟨_, rfl, ?_⟩; have n0_ := Aside0.mk (Kd.Q_elder' (by (with_reducible repeat (first | apply Kd.Q_alloc | apply Kd.Q_drewN | apply Kd.Q_drew)); exact (Kd.Q_mono (Kd.Q_far (p := ⟨gb601, 2, none⟩) (Kd.Q_far (p := ⟨gb601, 1, none⟩) (Kd.Q_far (p := ⟨gb601, 0, none⟩) (Kd.Q_types HO588.out BK601.out (by decide)) (fun _ hk => hk.2) (.int .i64 t595)) (fun _ hk => hk.2) (.int .i64 t596)) (fun _ hk => hk.2) (.slice Ao35 t597.length co35)) (fun _ h_ => h_.1))) (Kd.R_base ho0) hb); have n1_ := Aside0.mk (Kd.R_elder' (by (with_reducible repeat (first | apply Kd.R_alloc | apply Kd.R_drewN | apply Kd.R_drew)); exact (Kd.R_mono (Kd.R_far (p := ⟨gb601, 2, none⟩) (Kd.R_far (p := ⟨gb601, 1, none⟩) (Kd.R_far (p := ⟨gb601, 0, none⟩) (Kd.R_types HO599.out BK601.out (by decide)) (fun _ hk => hk.2) (.int .i64 t595)) (fun _ hk => hk.2) (.int .i64 t596)) (fun _ hk => hk.2) (.slice Ao35 t597.length co35)) (fun _ h_ => h_.1))) (Kd.R_base ho0) hb); have n2_ := Aside0.mk (Kd.R_lower (Kd.R_new' (Kd.R_new' ho0 (Kd.Q_lt (by (with_reducible repeat (first | apply Kd.Q_alloc | apply Kd.Q_drewN | apply Kd.Q_drew)); exact (Kd.Q_mono (Kd.Q_far (p := ⟨gb601, 2, none⟩) (Kd.Q_far (p := ⟨gb601, 1, none⟩) (Kd.Q_far (p := ⟨gb601, 0, none⟩) (Kd.Q_types HO588.out BK601.out (by decide)) (fun _ hk => hk.2) (.int .i64 t595)) (fun _ hk => hk.2) (.int .i64 t596)) (fun _ hk => hk.2) (.slice Ao35 t597.length co35)) (fun _ h_ => h_.1))))) (Kd.R_lt (by (with_reducible repeat (first | apply Kd.R_alloc | apply Kd.R_drewN | apply Kd.R_drew)); exact (Kd.R_mono (Kd.R_far (p := ⟨gb601, 2, none⟩) (Kd.R_far (p := ⟨gb601, 1, none⟩) (Kd.R_far (p := ⟨gb601, 0, none⟩) (Kd.R_types HO599.out BK601.out (by decide)) (fun _ hk => hk.2) (.int .i64 t595)) (fun _ hk => hk.2) (.int .i64 t596)) (fun _ hk => hk.2) (.slice Ao35 t597.length co35)) (fun _ h_ => h_.1))))) (below_size bl_)); have n3_ := Aside0.mk (blk_below (g := gb589) (o := .cells #[.int .i64 t584, .int .i64 t585, .slice Ao26 t586.length co26] 24 (0, 0)) (by (with_reducible repeat (first | refine blk_drewN ?_ _ | refine blk_drew ?_ | refine blk_alloc ?_ _)); refine blk_far ?_ NB589_601.out _; (with_reducible repeat (first | refine blk_drewN ?_ _ | refine blk_drew ?_ | refine blk_alloc ?_ _)); refine blk_far ?_ NB589_601.out _; (with_reducible repeat (first | refine blk_drewN ?_ _ | refine blk_drew ?_ | refine blk_alloc ?_ _)); refine blk_far ?_ NB589_601.out _; (with_reducible repeat (first | refine blk_drewN ?_ _ | refine blk_drew ?_ | refine blk_alloc ?_ _)); exact BK589.out) hb); have n4_ := Aside0.mk (blk_below (g := gb601) (o := .cells #[.int .i64 t595, .int .i64 t596, .slice Ao35 t597.length co35] 24 (0, 0)) (by (with_reducible repeat (first | refine blk_drewN ?_ _ | refine blk_drew ?_ | refine blk_alloc ?_ _)); refine blk_put (cs := #[.int .i64 t595, .int .i64 t596, .slice none 0 0]) ?_ 2 _ rfl; (with_reducible repeat (first | refine blk_drewN ?_ _ | refine blk_drew ?_ | refine blk_alloc ?_ _)); refine blk_put (cs := #[.int .i64 t595, .int .i64 0, .slice none 0 0]) ?_ 1 _ rfl; (with_reducible repeat (first | refine blk_drewN ?_ _ | refine blk_drew ?_ | refine blk_alloc ?_ _)); refine blk_put (cs := #[.int .i64 0, .int .i64 0, .slice none 0 0]) ?_ 0 _ rfl; (with_reducible repeat (first | refine blk_drewN ?_ _ | refine blk_drew ?_ | refine blk_alloc ?_ _)); exact BK601.out) hb); have n5_ := Aside0.mk (below_step bl_ hb); clear HO588; clear HO599; clear BK589; clear BK601; clear HB; have HO588 := n0_; have HO599 := n1_; have HO606 := n2_; have BK589 := n3_; have BK601 := n4_; have HB := n5_; clear n0_ n1_ n2_ n3_ n4_ n5_; (try clear hb); (try clear hb2); (try clear hk); (try clear hi); (try clear ho0)) | ((with_reducible refine gate_dst (N := 11) rfl ?_); refine box_event ?hg (N := 11) ?hd (cs := #[.int .i64 0, .int .i64 0, .slice none 0 0]) (t := 24) ?hr ?_; (case hd => rfl); (case hg => rfl); (case hr => first | (go_simp; done) | (go_simp; rfl)); intro gb608 hg w37 hbox hb; have n0_ := Aside0.mk (Kd.Q_below (by (with_reducible repeat (first | apply Kd.Q_alloc | apply Kd.Q_drewN | apply Kd.Q_drew)); exact HO588.out) hb); have n1_ := Aside0.mk (Kd.R_below (ra_ HO599.out) hb); have n2_ := Aside0.mk (Kd.R_below (ra_ HO606.out) hb); have n3_ := Aside0.mk (blk_below (g := gb589) (o := .cells #[.int .i64 t584, .int .i64 t585, .slice Ao26 t586.length co26] 24 (0, 0)) (bk_ BK589.out) hb); have n4_ := Aside0.mk (blk_below (g := gb601) (o := .cells #[.int .i64 t595, .int .i64 t596, .slice Ao35 t597.length co35] 24 (0, 0)) (bk_ BK601.out) hb); have n5_ := Aside0.mk (below_step bl_ hb); have n6_ := Aside0.mk (hbox); have n7_ := Aside0.mk ((hz_ : w.heap.size ≤ gb608)); have n8_ := Aside0.mk ((hz_ : w.heap.size ≤ gb608)); have n9_ := Aside0.mk ((by rw [hg]; exact Nat.ne_of_lt (blk_lt (g := gb589) (o := .cells #[.int .i64 t584, .int .i64 t585, .slice Ao26 t586.length co26] 24 (0, 0)) (bk_ BK589.out)) : gb589 ≠ gb608)); have n10_ := Aside0.mk ((by rw [hg]; exact Nat.ne_of_gt (blk_lt (g := gb589) (o := .cells #[.int .i64 t584, .int .i64 t585, .slice Ao26 t586.length co26] 24 (0, 0)) (bk_ BK589.out)) : gb608 ≠ gb589)); have n11_ := Aside0.mk ((by rw [hg]; exact Nat.ne_of_lt (blk_lt (g := gb601) (o := .cells #[.int .i64 t595, .int .i64 t596, .slice Ao35 t597.length co35] 24 (0, 0)) (bk_ BK601.out)) : gb601 ≠ gb608)); have n12_ := Aside0.mk ((by rw [hg]; exact Nat.ne_of_gt (blk_lt (g := gb601) (o := .cells #[.int .i64 t595, .int .i64 t596, .slice Ao35 t597.length co35] 24 (0, 0)) (bk_ BK601.out)) : gb608 ≠ gb601)); clear HO588; clear HO599; clear HO606; clear BK589; clear BK601; clear HB; have HO588 := n0_; have HO599 := n1_; have HO606 := n2_; have BK589 := n3_; have BK601 := n4_; have HB := n5_; have BK608 := n6_; have GW608 := n7_; have GE608 := n8_; have NB589_608 := n9_; have NB608_589 := n10_; have NB601_608 := n11_; have NB608_601 := n12_; clear n0_ n1_ n2_ n3_ n4_ n5_ n6_ n7_ n8_ n9_ n10_ n11_ n12_; clear hb hbox hg; have hnb38 := NB608_589.out; have hnc38 := NB589_608.out; have hnb39 := NB608_601.out; have hnc39 := NB601_608.out; have hcz40_0 : w37.cell? ⟨gb608, 0, none⟩ = some (.int .i64 0) := (blk_cell BK608.out 0).trans rfl; have hcz40_1 : w37.cell? ⟨gb608, 1, none⟩ = some (.int .i64 0) := (blk_cell BK608.out 1).trans rfl; have hcz40_2 : w37.cell? ⟨gb608, 2, none⟩ = some (.slice none 0 0) := (blk_cell BK608.out 2).trans rfl; have hfz40_0 := blk_frozen BK608.out 0; have hfz40_1 := blk_frozen BK608.out 1; have hfz40_2 := blk_frozen BK608.out 2; obtain ⟨Ao41, co41, eo41⟩ := Kd.R_slice HO606.out; subst eo41) | ((with_reducible refine gate_callee (f := 31) rfl ?_); refine goesL_ (some 47) rfl rfl Try.func31 (by kernel_rfl) rfl #[.slice A0 l0.length c0] rfl lm_ ?_; (with_reducible refine (spec_DrawReadCallLine.calls k _ _ l0 t609 t610 _ ?side1 ?side2 A10.out).mono ?_); (case side1 => exact Kd.C_below HR0.out bl_); (case side2 => exact HC0.out); rintro e w42 ⟨rfl, hb⟩; refine ⟨_, rfl, ?_⟩; have n0_ := Aside0.mk (Kd.Q_below (by (with_reducible repeat (first | apply Kd.Q_alloc | apply Kd.Q_drewN | apply Kd.Q_drew)); exact (Kd.Q_mono (Kd.Q_far (p := ⟨gb608, 2, none⟩) (Kd.Q_far (p := ⟨gb608, 1, none⟩) (Kd.Q_far (p := ⟨gb608, 0, none⟩) (Kd.Q_types HO588.out BK608.out (by decide)) (fun _ hk => hk.2) (.int .i64 t602)) (fun _ hk => hk.2) (.int .i64 t603)) (fun _ hk => hk.2) (.slice Ao41 t604.length co41)) (fun _ h_ => h_.1))) hb); have n1_ := Aside0.mk (Kd.R_below (by (with_reducible repeat (first | apply Kd.R_alloc | apply Kd.R_drewN | apply Kd.R_drew)); exact (Kd.R_mono (Kd.R_far (p := ⟨gb608, 2, none⟩) (Kd.R_far (p := ⟨gb608, 1, none⟩) (Kd.R_far (p := ⟨gb608, 0, none⟩) (Kd.R_types HO599.out BK608.out (by decide)) (fun _ hk => hk.2) (.int .i64 t602)) (fun _ hk => hk.2) (.int .i64 t603)) (fun _ hk => hk.2) (.slice Ao41 t604.length co41)) (fun _ h_ => h_.1))) hb); have n2_ := Aside0.mk (Kd.R_below (by (with_reducible repeat (first | apply Kd.R_alloc | apply Kd.R_drewN | apply Kd.R_drew)); exact (Kd.R_mono (Kd.R_far (p := ⟨gb608, 2, none⟩) (Kd.R_far (p := ⟨gb608, 1, none⟩) (Kd.R_far (p := ⟨gb608, 0, none⟩) (Kd.R_types HO606.out BK608.out (by decide)) (fun _ hk => hk.2) (.int .i64 t602)) (fun _ hk => hk.2) (.int .i64 t603)) (fun _ hk => hk.2) (.slice Ao41 t604.length co41)) (fun _ h_ => h_.1))) hb); have n3_ := Aside0.mk (blk_below (g := gb589) (o := .cells #[.int .i64 t584, .int .i64 t585, .slice Ao26 t586.length co26] 24 (0, 0)) (by (with_reducible repeat (first | refine blk_drewN ?_ _ | refine blk_drew ?_ | refine blk_alloc ?_ _)); refine blk_far ?_ NB589_608.out _; (with_reducible repeat (first | refine blk_drewN ?_ _ | refine blk_drew ?_ | refine blk_alloc ?_ _)); refine blk_far ?_ NB589_608.out _; (with_reducible repeat (first | refine blk_drewN ?_ _ | refine blk_drew ?_ | refine blk_alloc ?_ _)); refine blk_far ?_ NB589_608.out _; (with_reducible repeat (first | refine blk_drewN ?_ _ | refine blk_drew ?_ | refine blk_alloc ?_ _)); exact BK589.out) hb); have n4_ := Aside0.mk (blk_below (g := gb601) (o := .cells #[.int .i64 t595, .int .i64 t596, .slice Ao35 t597.length co35] 24 (0, 0)) (by (with_reducible repeat (first | refine blk_drewN ?_ _ | refine blk_drew ?_ | refine blk_alloc ?_ _)); refine blk_far ?_ NB601_608.out _; (with_reducible repeat (first | refine blk_drewN ?_ _ | refine blk_drew ?_ | refine blk_alloc ?_ _)); refine blk_far ?_ NB601_608.out _; (with_reducible repeat (first | refine blk_drewN ?_ _ | refine blk_drew ?_ | refine blk_alloc ?_ _)); refine blk_far ?_ NB601_608.out _; (with_reducible repeat (first | refine blk_drewN ?_ _ | refine blk_drew ?_ | refine blk_alloc ?_ _)); exact BK601.out) hb); have n5_ := Aside0.mk (blk_below (g := gb608) (o := .cells #[.int .i64 t602, .int .i64 t603, .slice Ao41 t604.length co41] 24 (0, 0)) (by (with_reducible repeat (first | refine blk_drewN ?_ _ | refine blk_drew ?_ | refine blk_alloc ?_ _)); refine blk_put (cs := #[.int .i64 t602, .int .i64 t603, .slice none 0 0]) ?_ 2 _ rfl; (with_reducible repeat (first | refine blk_drewN ?_ _ | refine blk_drew ?_ | refine blk_alloc ?_ _)); refine blk_put (cs := #[.int .i64 t602, .int .i64 0, .slice none 0 0]) ?_ 1 _ rfl; (with_reducible repeat (first | refine blk_drewN ?_ _ | refine blk_drew ?_ | refine blk_alloc ?_ _)); refine blk_put (cs := #[.int .i64 0, .int .i64 0, .slice none 0 0]) ?_ 0 _ rfl; (with_reducible repeat (first | refine blk_drewN ?_ _ | refine blk_drew ?_ | refine blk_alloc ?_ _)); exact BK608.out) hb); have n6_ := Aside0.mk (below_step bl_ hb); clear HO588; clear HO599; clear HO606; clear BK589; clear BK601; clear BK608; clear HB; have HO588 := n0_; have HO599 := n1_; have HO606 := n2_; have BK589 := n3_; have BK601 := n4_; have BK608 := n5_; have HB := n6_; clear n0_ n1_ n2_ n3_ n4_ n5_ n6_; (try clear hb); (try clear hb2); (try clear hk); (try clear hi)) | ((with_reducible refine gate_callee (f := 16) rfl ?_); refine goesL_ (some 53) rfl rfl Try.func16 (by kernel_rfl) rfl #[.int .i64 t609, .string t610] rfl lm_ ?_; (with_reducible refine (impl_ReadCallLine.calls k t609 t610 t611 t612 t613 t616 _ A11.out).mono ?_); rintro e w43 ⟨v614, rfl, ho0, hb⟩; refine ⟨_, rfl, ?_⟩; have n0_ := Aside0.mk (Kd.Q_elder' (by (with_reducible repeat (first | apply Kd.Q_alloc | apply Kd.Q_drewN | apply Kd.Q_drew)); exact HO588.out) (Kd.R_base ho0) hb); have n1_ := Aside0.mk (Kd.R_elder' (ra_ HO599.out) (Kd.R_base ho0) hb); have n2_ := Aside0.mk (Kd.R_elder' (ra_ HO606.out) (Kd.R_base ho0) hb); have n3_ := Aside0.mk (Kd.R_lower (Kd.R_new' (Kd.R_new' (Kd.R_new' ho0 (Kd.Q_lt (by (with_reducible repeat (first | apply Kd.Q_alloc | apply Kd.Q_drewN | apply Kd.Q_drew)); exact HO588.out))) (Kd.R_lt (ra_ HO599.out))) (Kd.R_lt (ra_ HO606.out))) (below_size bl_)); have n4_ := Aside0.mk (blk_below (g := gb589) (o := .cells #[.int .i64 t584, .int .i64 t585, .slice Ao26 t586.length co26] 24 (0, 0)) (bk_ BK589.out) hb); have n5_ := Aside0.mk (blk_below (g := gb601) (o := .cells #[.int .i64 t595, .int .i64 t596, .slice Ao35 t597.length co35] 24 (0, 0)) (bk_ BK601.out) hb); have n6_ := Aside0.mk (blk_below (g := gb608) (o := .cells #[.int .i64 t602, .int .i64 t603, .slice Ao41 t604.length co41] 24 (0, 0)) (bk_ BK608.out) hb); have n7_ := Aside0.mk (below_step bl_ hb); clear HO588; clear HO599; clear HO606; clear BK589; clear BK601; clear BK608; clear HB; have HO588 := n0_; have HO599 := n1_; have HO606 := n2_; have HO615 := n3_; have BK589 := n4_; have BK601 := n5_; have BK608 := n6_; have HB := n7_; clear n0_ n1_ n2_ n3_ n4_ n5_ n6_ n7_; (try clear hb); (try clear hb2); (try clear hk); (try clear hi); (try clear ho0)) | ((with_reducible refine gate_dst (N := 15) rfl ?_); refine box_event ?hg (N := 15) ?hd (cs := #[.int .i64 0, .int .i64 0, .slice none 0 0]) (t := 24) ?hr ?_; (case hd => rfl); (case hg => rfl); (case hr => first | (go_simp; done) | (go_simp; rfl)); intro gb617 hg w44 hbox hb; have n0_ := Aside0.mk (Kd.Q_below (by (with_reducible repeat (first | apply Kd.Q_alloc | apply Kd.Q_drewN | apply Kd.Q_drew)); exact HO588.out) hb); have n1_ := Aside0.mk (Kd.R_below (ra_ HO599.out) hb); have n2_ := Aside0.mk (Kd.R_below (ra_ HO606.out) hb); have n3_ := Aside0.mk (Kd.R_below (ra_ HO615.out) hb); have n4_ := Aside0.mk (blk_below (g := gb589) (o := .cells #[.int .i64 t584, .int .i64 t585, .slice Ao26 t586.length co26] 24 (0, 0)) (bk_ BK589.out) hb); have n5_ := Aside0.mk (blk_below (g := gb601) (o := .cells #[.int .i64 t595, .int .i64 t596, .slice Ao35 t597.length co35] 24 (0, 0)) (bk_ BK601.out) hb); have n6_ := Aside0.mk (blk_below (g := gb608) (o := .cells #[.int .i64 t602, .int .i64 t603, .slice Ao41 t604.length co41] 24 (0, 0)) (bk_ BK608.out) hb); have n7_ := Aside0.mk (below_step bl_ hb); have n8_ := Aside0.mk (hbox); have n9_ := Aside0.mk ((hz_ : w.heap.size ≤ gb617)); have n10_ := Aside0.mk ((hz_ : w.heap.size ≤ gb617)); have n11_ := Aside0.mk ((by rw [hg]; exact Nat.ne_of_lt (blk_lt (g := gb589) (o := .cells #[.int .i64 t584, .int .i64 t585, .slice Ao26 t586.length co26] 24 (0, 0)) (bk_ BK589.out)) : gb589 ≠ gb617)); have n12_ := Aside0.mk ((by rw [hg]; exact Nat.ne_of_gt (blk_lt (g := gb589) (o := .cells #[.int .i64 t584, .int .i64 t585, .slice Ao26 t586.length co26] 24 (0, 0)) (bk_ BK589.out)) : gb617 ≠ gb589)); have n13_ := Aside0.mk ((by rw [hg]; exact Nat.ne_of_lt (blk_lt (g := gb601) (o := .cells #[.int .i64 t595, .int .i64 t596, .slice Ao35 t597.length co35] 24 (0, 0)) (bk_ BK601.out)) : gb601 ≠ gb617)); have n14_ := Aside0.mk ((by rw [hg]; exact Nat.ne_of_gt (blk_lt (g := gb601) (o := .cells #[.int .i64 t595, .int .i64 t596, .slice Ao35 t597.length co35] 24 (0, 0)) (bk_ BK601.out)) : gb617 ≠ gb601)); have n15_ := Aside0.mk ((by rw [hg]; exact Nat.ne_of_lt (blk_lt (g := gb608) (o := .cells #[.int .i64 t602, .int .i64 t603, .slice Ao41 t604.length co41] 24 (0, 0)) (bk_ BK608.out)) : gb608 ≠ gb617)); have n16_ := Aside0.mk ((by rw [hg]; exact Nat.ne_of_gt (blk_lt (g := gb608) (o := .cells #[.int .i64 t602, .int .i64 t603, .slice Ao41 t604.length co41] 24 (0, 0)) (bk_ BK608.out)) : gb617 ≠ gb608)); clear HO588; clear HO599; clear HO606; clear HO615; clear BK589; clear BK601; clear BK608; clear HB; have HO588 := n0_; have HO599 := n1_; have HO606 := n2_; have HO615 := n3_; have BK589 := n4_; have BK601 := n5_; have BK608 := n6_; have HB := n7_; have BK617 := n8_; have GW617 := n9_; have GE617 := n10_; have NB589_617 := n11_; have NB617_589 := n12_; have NB601_617 := n13_; have NB617_601 := n14_; have NB608_617 := n15_; have NB617_608 := n16_; clear n0_ n1_ n2_ n3_ n4_ n5_ n6_ n7_ n8_ n9_ n10_ n11_ n12_ n13_ n14_ n15_ n16_; clear hb hbox hg; have hnb45 := NB617_589.out; have hnc45 := NB589_617.out; have hnb46 := NB617_601.out; have hnc46 := NB601_617.out; have hnb47 := NB617_608.out; have hnc47 := NB608_617.out; have hcz48_0 : w44.cell? ⟨gb617, 0, none⟩ = some (.int .i64 0) := (blk_cell BK617.out 0).trans rfl; have hcz48_1 : w44.cell? ⟨gb617, 1, none⟩ = some (.int .i64 0) := (blk_cell BK617.out 1).trans rfl; have hcz48_2 : w44.cell? ⟨gb617, 2, none⟩ = some (.slice none 0 0) := (blk_cell BK617.out 2).trans rfl; have hfz48_0 := blk_frozen BK617.out 0; have hfz48_1 := blk_frozen BK617.out 1; have hfz48_2 := blk_frozen BK617.out 2; obtain ⟨Ao49, co49, eo49⟩ := Kd.R_slice HO615.out; subst eo49) | ((with_reducible refine gate_callee (f := 15) rfl ?_); refine goesL_ (some 59) rfl rfl Try.func15 (by kernel_rfl) rfl #[.int .i64 t609, .string t610] rfl lm_ ?_; (with_reducible refine (spec_ReadCallLine.calls k t609 t610 t618 t619 t620 t623 _ A12.out).mono ?_); rintro e w50 ⟨v621, rfl, ho0, hb⟩; refine ⟨_, rfl, ?_⟩; have n0_ := Aside0.mk (Kd.Q_elder' (by (with_reducible repeat (first | apply Kd.Q_alloc | apply Kd.Q_drewN | apply Kd.Q_drew)); exact (Kd.Q_mono (Kd.Q_far (p := ⟨gb617, 2, none⟩) (Kd.Q_far (p := ⟨gb617, 1, none⟩) (Kd.Q_far (p := ⟨gb617, 0, none⟩) (Kd.Q_types HO588.out BK617.out (by decide)) (fun _ hk => hk.2) (.int .i64 t611)) (fun _ hk => hk.2) (.int .i64 t612)) (fun _ hk => hk.2) (.slice Ao49 t613.length co49)) (fun _ h_ => h_.1))) (Kd.R_base ho0) hb); have n1_ := Aside0.mk (Kd.R_elder' (by (with_reducible repeat (first | apply Kd.R_alloc | apply Kd.R_drewN | apply Kd.R_drew)); exact (Kd.R_mono (Kd.R_far (p := ⟨gb617, 2, none⟩) (Kd.R_far (p := ⟨gb617, 1, none⟩) (Kd.R_far (p := ⟨gb617, 0, none⟩) (Kd.R_types HO599.out BK617.out (by decide)) (fun _ hk => hk.2) (.int .i64 t611)) (fun _ hk => hk.2) (.int .i64 t612)) (fun _ hk => hk.2) (.slice Ao49 t613.length co49)) (fun _ h_ => h_.1))) (Kd.R_base ho0) hb); have n2_ := Aside0.mk (Kd.R_elder' (by (with_reducible repeat (first | apply Kd.R_alloc | apply Kd.R_drewN | apply Kd.R_drew)); exact (Kd.R_mono (Kd.R_far (p := ⟨gb617, 2, none⟩) (Kd.R_far (p := ⟨gb617, 1, none⟩) (Kd.R_far (p := ⟨gb617, 0, none⟩) (Kd.R_types HO606.out BK617.out (by decide)) (fun _ hk => hk.2) (.int .i64 t611)) (fun _ hk => hk.2) (.int .i64 t612)) (fun _ hk => hk.2) (.slice Ao49 t613.length co49)) (fun _ h_ => h_.1))) (Kd.R_base ho0) hb); have n3_ := Aside0.mk (Kd.R_elder' (by (with_reducible repeat (first | apply Kd.R_alloc | apply Kd.R_drewN | apply Kd.R_drew)); exact (Kd.R_mono (Kd.R_far (p := ⟨gb617, 2, none⟩) (Kd.R_far (p := ⟨gb617, 1, none⟩) (Kd.R_far (p := ⟨gb617, 0, none⟩) (Kd.R_types HO615.out BK617.out (by decide)) (fun _ hk => hk.2) (.int .i64 t611)) (fun _ hk => hk.2) (.int .i64 t612)) (fun _ hk => hk.2) (.slice Ao49 t613.length co49)) (fun _ h_ => h_.1))) (Kd.R_base ho0) hb); have n4_ := Aside0.mk (Kd.R_lower (Kd.R_new' (Kd.R_new' (Kd.R_new' (Kd.R_new' ho0 (Kd.Q_lt (by (with_reducible repeat (first | apply Kd.Q_alloc | apply Kd.Q_drewN | apply Kd.Q_drew)); exact (Kd.Q_mono (Kd.Q_far (p := ⟨gb617, 2, none⟩) (Kd.Q_far (p := ⟨gb617, 1, none⟩) (Kd.Q_far (p := ⟨gb617, 0, none⟩) (Kd.Q_types HO588.out BK617.out (by decide)) (fun _ hk => hk.2) (.int .i64 t611)) (fun _ hk => hk.2) (.int .i64 t612)) (fun _ hk => hk.2) (.slice Ao49 t613.length co49)) (fun _ h_ => h_.1))))) (Kd.R_lt (by (with_reducible repeat (first | apply Kd.R_alloc | apply Kd.R_drewN | apply Kd.R_drew)); exact (Kd.R_mono (Kd.R_far (p := ⟨gb617, 2, none⟩) (Kd.R_far (p := ⟨gb617, 1, none⟩) (Kd.R_far (p := ⟨gb617, 0, none⟩) (Kd.R_types HO599.out BK617.out (by decide)) (fun _ hk => hk.2) (.int .i64 t611)) (fun _ hk => hk.2) (.int .i64 t612)) (fun _ hk => hk.2) (.slice Ao49 t613.length co49)) (fun _ h_ => h_.1))))) (Kd.R_lt (by (with_reducible repeat (first | apply Kd.R_alloc | apply Kd.R_drewN | apply Kd.R_drew)); exact (Kd.R_mono (Kd.R_far (p := ⟨gb617, 2, none⟩) (Kd.R_far (p := ⟨gb617, 1, none⟩) (Kd.R_far (p := ⟨gb617, 0, none⟩) (Kd.R_types HO606.out BK617.out (by decide)) (fun _ hk => hk.2) (.int .i64 t611)) (fun _ hk => hk.2) (.int .i64 t612)) (fun _ hk => hk.2) (.slice Ao49 t613.length co49)) (fun _ h_ => h_.1))))) (Kd.R_lt (by (with_reducible repeat (first | apply Kd.R_alloc | apply Kd.R_drewN | apply Kd.R_drew)); exact (Kd.R_mono (Kd.R_far (p := ⟨gb617, 2, none⟩) (Kd.R_far (p := ⟨gb617, 1, none⟩) (Kd.R_far (p := ⟨gb617, 0, none⟩) (Kd.R_types HO615.out BK617.out (by decide)) (fun _ hk => hk.2) (.int .i64 t611)) (fun _ hk => hk.2) (.int .i64 t612)) (fun _ hk => hk.2) (.slice Ao49 t613.length co49)) (fun _ h_ => h_.1))))) (below_size bl_)); have n5_ := Aside0.mk (blk_below (g := gb589) (o := .cells #[.int .i64 t584, .int .i64 t585, .slice Ao26 t586.length co26] 24 (0, 0)) (by (with_reducible repeat (first | refine blk_drewN ?_ _ | refine blk_drew ?_ | refine blk_alloc ?_ _)); refine blk_far ?_ NB589_617.out _; (with_reducible repeat (first | refine blk_drewN ?_ _ | refine blk_drew ?_ | refine blk_alloc ?_ _)); refine blk_far ?_ NB589_617.out _; (with_reducible repeat (first | refine blk_drewN ?_ _ | refine blk_drew ?_ | refine blk_alloc ?_ _)); refine blk_far ?_ NB589_617.out _; (with_reducible repeat (first | refine blk_drewN ?_ _ | refine blk_drew ?_ | refine blk_alloc ?_ _)); exact BK589.out) hb); have n6_ := Aside0.mk (blk_below (g := gb601) (o := .cells #[.int .i64 t595, .int .i64 t596, .slice Ao35 t597.length co35] 24 (0, 0)) (by (with_reducible repeat (first | refine blk_drewN ?_ _ | refine blk_drew ?_ | refine blk_alloc ?_ _)); refine blk_far ?_ NB601_617.out _; (with_reducible repeat (first | refine blk_drewN ?_ _ | refine blk_drew ?_ | refine blk_alloc ?_ _)); refine blk_far ?_ NB601_617.out _; (with_reducible repeat (first | refine blk_drewN ?_ _ | refine blk_drew ?_ | refine blk_alloc ?_ _)); refine blk_far ?_ NB601_617.out _; (with_reducible repeat (first | refine blk_drewN ?_ _ | refine blk_drew ?_ | refine blk_alloc ?_ _)); exact BK601.out) hb); have n7_ := Aside0.mk (blk_below (g := gb608) (o := .cells #[.int .i64 t602, .int .i64 t603, .slice Ao41 t604.length co41] 24 (0, 0)) (by (with_reducible repeat (first | refine blk_drewN ?_ _ | refine blk_drew ?_ | refine blk_alloc ?_ _)); refine blk_far ?_ NB608_617.out _; (with_reducible repeat (first | refine blk_drewN ?_ _ | refine blk_drew ?_ | refine blk_alloc ?_ _)); refine blk_far ?_ NB608_617.out _; (with_reducible repeat (first | refine blk_drewN ?_ _ | refine blk_drew ?_ | refine blk_alloc ?_ _)); refine blk_far ?_ NB608_617.out _; (with_reducible repeat (first | refine blk_drewN ?_ _ | refine blk_drew ?_ | refine blk_alloc ?_ _)); exact BK608.out) hb); have n8_ := Aside0.mk (blk_below (g := gb617) (o := .cells #[.int .i64 t611, .int .i64 t612, .slice Ao49 t613.length co49] 24 (0, 0)) (by (with_reducible repeat (first | refine blk_drewN ?_ _ | refine blk_drew ?_ | refine blk_alloc ?_ _)); refine blk_put (cs := #[.int .i64 t611, .int .i64 t612, .slice none 0 0]) ?_ 2 _ rfl; (with_reducible repeat (first | refine blk_drewN ?_ _ | refine blk_drew ?_ | refine blk_alloc ?_ _)); refine blk_put (cs := #[.int .i64 t611, .int .i64 0, .slice none 0 0]) ?_ 1 _ rfl; (with_reducible repeat (first | refine blk_drewN ?_ _ | refine blk_drew ?_ | refine blk_alloc ?_ _)); refine blk_put (cs := #[.int .i64 0, .int .i64 0, .slice none 0 0]) ?_ 0 _ rfl; (with_reducible repeat (first | refine blk_drewN ?_ _ | refine blk_drew ?_ | refine blk_alloc ?_ _)); exact BK617.out) hb); have n9_ := Aside0.mk (below_step bl_ hb); clear HO588; clear HO599; clear HO606; clear HO615; clear BK589; clear BK601; clear BK608; clear BK617; clear HB; have HO588 := n0_; have HO599 := n1_; have HO606 := n2_; have HO615 := n3_; have HO622 := n4_; have BK589 := n5_; have BK601 := n6_; have BK608 := n7_; have BK617 := n8_; have HB := n9_; clear n0_ n1_ n2_ n3_ n4_ n5_ n6_ n7_ n8_ n9_; (try clear hb); (try clear hb2); (try clear hk); (try clear hi); (try clear ho0)) | ((with_reducible refine gate_dst (N := 17) rfl ?_); refine box_event ?hg (N := 17) ?hd (cs := #[.int .i64 0, .int .i64 0, .slice none 0 0]) (t := 24) ?hr ?_; (case hd => rfl); (case hg => rfl); (case hr => first | (go_simp; done) | (go_simp; rfl)); intro gb624 hg w51 hbox hb; have n0_ := Aside0.mk (Kd.Q_below (by (with_reducible repeat (first | apply Kd.Q_alloc | apply Kd.Q_drewN | apply Kd.Q_drew)); exact HO588.out) hb); have n1_ := Aside0.mk (Kd.R_below (ra_ HO599.out) hb); have n2_ := Aside0.mk (Kd.R_below (ra_ HO606.out) hb); have n3_ := Aside0.mk (Kd.R_below (ra_ HO615.out) hb); have n4_ := Aside0.mk (Kd.R_below (ra_ HO622.out) hb); have n5_ := Aside0.mk (blk_below (g := gb589) (o := .cells #[.int .i64 t584, .int .i64 t585, .slice Ao26 t586.length co26] 24 (0, 0)) (bk_ BK589.out) hb); have n6_ := Aside0.mk (blk_below (g := gb601) (o := .cells #[.int .i64 t595, .int .i64 t596, .slice Ao35 t597.length co35] 24 (0, 0)) (bk_ BK601.out) hb); have n7_ := Aside0.mk (blk_below (g := gb608) (o := .cells #[.int .i64 t602, .int .i64 t603, .slice Ao41 t604.length co41] 24 (0, 0)) (bk_ BK608.out) hb); have n8_ := Aside0.mk (blk_below (g := gb617) (o := .cells #[.int .i64 t611, .int .i64 t612, .slice Ao49 t613.length co49] 24 (0, 0)) (bk_ BK617.out) hb); have n9_ := Aside0.mk (below_step bl_ hb); have n10_ := Aside0.mk (hbox); have n11_ := Aside0.mk ((hz_ : w.heap.size ≤ gb624)); have n12_ := Aside0.mk ((hz_ : w.heap.size ≤ gb624)); have n13_ := Aside0.mk ((by rw [hg]; exact Nat.ne_of_lt (blk_lt (g := gb589) (o := .cells #[.int .i64 t584, .int .i64 t585, .slice Ao26 t586.length co26] 24 (0, 0)) (bk_ BK589.out)) : gb589 ≠ gb624)); have n14_ := Aside0.mk ((by rw [hg]; exact Nat.ne_of_gt (blk_lt (g := gb589) (o := .cells #[.int .i64 t584, .int .i64 t585, .slice Ao26 t586.length co26] 24 (0, 0)) (bk_ BK589.out)) : gb624 ≠ gb589)); have n15_ := Aside0.mk ((by rw [hg]; exact Nat.ne_of_lt (blk_lt (g := gb601) (o := .cells #[.int .i64 t595, .int .i64 t596, .slice Ao35 t597.length co35] 24 (0, 0)) (bk_ BK601.out)) : gb601 ≠ gb624)); have n16_ := Aside0.mk ((by rw [hg]; exact Nat.ne_of_gt (blk_lt (g := gb601) (o := .cells #[.int .i64 t595, .int .i64 t596, .slice Ao35 t597.length co35] 24 (0, 0)) (bk_ BK601.out)) : gb624 ≠ gb601)); have n17_ := Aside0.mk ((by rw [hg]; exact Nat.ne_of_lt (blk_lt (g := gb608) (o := .cells #[.int .i64 t602, .int .i64 t603, .slice Ao41 t604.length co41] 24 (0, 0)) (bk_ BK608.out)) : gb608 ≠ gb624)); have n18_ := Aside0.mk ((by rw [hg]; exact Nat.ne_of_gt (blk_lt (g := gb608) (o := .cells #[.int .i64 t602, .int .i64 t603, .slice Ao41 t604.length co41] 24 (0, 0)) (bk_ BK608.out)) : gb624 ≠ gb608)); have n19_ := Aside0.mk ((by rw [hg]; exact Nat.ne_of_lt (blk_lt (g := gb617) (o := .cells #[.int .i64 t611, .int .i64 t612, .slice Ao49 t613.length co49] 24 (0, 0)) (bk_ BK617.out)) : gb617 ≠ gb624)); have n20_ := Aside0.mk ((by rw [hg]; exact Nat.ne_of_gt (blk_lt (g := gb617) (o := .cells #[.int .i64 t611, .int .i64 t612, .slice Ao49 t613.length co49] 24 (0, 0)) (bk_ BK617.out)) : gb624 ≠ gb617)); clear HO588; clear HO599; clear HO606; clear HO615; clear HO622; clear BK589; clear BK601; clear BK608; clear BK617; clear HB; have HO588 := n0_; have HO599 := n1_; have HO606 := n2_; have HO615 := n3_; have HO622 := n4_; have BK589 := n5_; have BK601 := n6_; have BK608 := n7_; have BK617 := n8_; have HB := n9_; have BK624 := n10_; have GW624 := n11_; have GE624 := n12_; have NB589_624 := n13_; have NB624_589 := n14_; have NB601_624 := n15_; have NB624_601 := n16_; have NB608_624 := n17_; have NB624_608 := n18_; have NB617_624 := n19_; have NB624_617 := n20_; clear n0_ n1_ n2_ n3_ n4_ n5_ n6_ n7_ n8_ n9_ n10_ n11_ n12_ n13_ n14_ n15_ n16_ n17_ n18_ n19_ n20_; clear hb hbox hg; have hnb52 := NB624_589.out; have hnc52 := NB589_624.out; have hnb53 := NB624_601.out; have hnc53 := NB601_624.out; have hnb54 := NB624_608.out; have hnc54 := NB608_624.out; have hnb55 := NB624_617.out; have hnc55 := NB617_624.out; have hcz56_0 : w51.cell? ⟨gb624, 0, none⟩ = some (.int .i64 0) := (blk_cell BK624.out 0).trans rfl; have hcz56_1 : w51.cell? ⟨gb624, 1, none⟩ = some (.int .i64 0) := (blk_cell BK624.out 1).trans rfl; have hcz56_2 : w51.cell? ⟨gb624, 2, none⟩ = some (.slice none 0 0) := (blk_cell BK624.out 2).trans rfl; have hfz56_0 := blk_frozen BK624.out 0; have hfz56_1 := blk_frozen BK624.out 1; have hfz56_2 := blk_frozen BK624.out 2; obtain ⟨Ao57, co57, eo57⟩ := Kd.R_slice HO622.out; subst eo57))
        have n0_ : Aside0 (Kd.Q k103 103 (((w51.setCell ⟨gb624, 0, none⟩ (.int .i64 t618)).setCell ⟨gb624, 1, none⟩ (.int .i64 t619)).setCell ⟨gb624, 2, none⟩ (.slice Ao57 t620.length co57)) w.heap.size (fun k_ => some k_ ≠ (.slice Ao35 t597.length co35 : Value).ownBlock ∧ some k_ ≠ (.slice Ao41 t604.length co41 : Value).ownBlock ∧ some k_ ≠ (.slice Ao49 t613.length co49 : Value).ownBlock ∧ some k_ ≠ (.slice Ao57 t620.length co57 : Value).ownBlock) (.slice Ao26 t586.length co26) t586) := ⟨by (with_reducible repeat (first | apply Kd.Q_alloc | apply Kd.Q_drewN | apply Kd.Q_drew)); exact Kd.Q_mono (Kd.Q_far (p := ⟨gb624, 2, none⟩) (Kd.Q_far (p := ⟨gb624, 1, none⟩) (Kd.Q_far (p := ⟨gb624, 0, none⟩) (Kd.Q_types HO588.out BK624.out (by decide)) (fun _ hk => hk.2) (.int .i64 t618)) (fun _ hk => hk.2) (.int .i64 t619)) (fun _ hk => hk.2) (.slice Ao57 t620.length co57)) (fun _ hk => ⟨hk.1.1.1.1.2, ⟨hk.1.1.1.2, ⟨hk.1.1.2, hk.1.2⟩⟩⟩)⟩
        have n1_ : Aside0 (Kd.R k103 103 (((w51.setCell ⟨gb624, 0, none⟩ (.int .i64 t618)).setCell ⟨gb624, 1, none⟩ (.int .i64 t619)).setCell ⟨gb624, 2, none⟩ (.slice Ao57 t620.length co57)) w.heap.size (fun k_ => some k_ ≠ (.slice Ao26 t586.length co26 : Value).ownBlock ∧ some k_ ≠ (.slice Ao41 t604.length co41 : Value).ownBlock ∧ some k_ ≠ (.slice Ao49 t613.length co49 : Value).ownBlock ∧ some k_ ≠ (.slice Ao57 t620.length co57 : Value).ownBlock) (.slice Ao35 t597.length co35) t597) := ⟨by (with_reducible repeat (first | apply Kd.R_alloc | apply Kd.R_drewN | apply Kd.R_drew)); exact Kd.R_mono (Kd.R_far (p := ⟨gb624, 2, none⟩) (Kd.R_far (p := ⟨gb624, 1, none⟩) (Kd.R_far (p := ⟨gb624, 0, none⟩) (Kd.R_types HO599.out BK624.out (by decide)) (fun _ hk => hk.2) (.int .i64 t618)) (fun _ hk => hk.2) (.int .i64 t619)) (fun _ hk => hk.2) (.slice Ao57 t620.length co57)) (fun _ hk => ⟨hk.1.1.1.1.2, ⟨hk.1.1.1.2, ⟨hk.1.1.2, hk.1.2⟩⟩⟩)⟩
        have n2_ : Aside0 (Kd.R k103 103 (((w51.setCell ⟨gb624, 0, none⟩ (.int .i64 t618)).setCell ⟨gb624, 1, none⟩ (.int .i64 t619)).setCell ⟨gb624, 2, none⟩ (.slice Ao57 t620.length co57)) w.heap.size (fun k_ => some k_ ≠ (.slice Ao26 t586.length co26 : Value).ownBlock ∧ some k_ ≠ (.slice Ao35 t597.length co35 : Value).ownBlock ∧ some k_ ≠ (.slice Ao49 t613.length co49 : Value).ownBlock ∧ some k_ ≠ (.slice Ao57 t620.length co57 : Value).ownBlock) (.slice Ao41 t604.length co41) t604) := ⟨by (with_reducible repeat (first | apply Kd.R_alloc | apply Kd.R_drewN | apply Kd.R_drew)); exact Kd.R_mono (Kd.R_far (p := ⟨gb624, 2, none⟩) (Kd.R_far (p := ⟨gb624, 1, none⟩) (Kd.R_far (p := ⟨gb624, 0, none⟩) (Kd.R_types HO606.out BK624.out (by decide)) (fun _ hk => hk.2) (.int .i64 t618)) (fun _ hk => hk.2) (.int .i64 t619)) (fun _ hk => hk.2) (.slice Ao57 t620.length co57)) (fun _ hk => ⟨hk.1.1.1.1.2, ⟨hk.1.1.1.2, ⟨hk.1.1.2, hk.1.2⟩⟩⟩)⟩
        have n3_ : Aside0 (Kd.R k103 103 (((w51.setCell ⟨gb624, 0, none⟩ (.int .i64 t618)).setCell ⟨gb624, 1, none⟩ (.int .i64 t619)).setCell ⟨gb624, 2, none⟩ (.slice Ao57 t620.length co57)) w.heap.size (fun k_ => some k_ ≠ (.slice Ao26 t586.length co26 : Value).ownBlock ∧ some k_ ≠ (.slice Ao35 t597.length co35 : Value).ownBlock ∧ some k_ ≠ (.slice Ao41 t604.length co41 : Value).ownBlock ∧ some k_ ≠ (.slice Ao57 t620.length co57 : Value).ownBlock) (.slice Ao49 t613.length co49) t613) := ⟨by (with_reducible repeat (first | apply Kd.R_alloc | apply Kd.R_drewN | apply Kd.R_drew)); exact Kd.R_mono (Kd.R_far (p := ⟨gb624, 2, none⟩) (Kd.R_far (p := ⟨gb624, 1, none⟩) (Kd.R_far (p := ⟨gb624, 0, none⟩) (Kd.R_types HO615.out BK624.out (by decide)) (fun _ hk => hk.2) (.int .i64 t618)) (fun _ hk => hk.2) (.int .i64 t619)) (fun _ hk => hk.2) (.slice Ao57 t620.length co57)) (fun _ hk => ⟨hk.1.1.1.1.2, ⟨hk.1.1.1.2, ⟨hk.1.1.2, hk.1.2⟩⟩⟩)⟩
        have n4_ : Aside0 (Kd.R k103 103 (((w51.setCell ⟨gb624, 0, none⟩ (.int .i64 t618)).setCell ⟨gb624, 1, none⟩ (.int .i64 t619)).setCell ⟨gb624, 2, none⟩ (.slice Ao57 t620.length co57)) w.heap.size (fun k_ => some k_ ≠ (.slice Ao26 t586.length co26 : Value).ownBlock ∧ some k_ ≠ (.slice Ao35 t597.length co35 : Value).ownBlock ∧ some k_ ≠ (.slice Ao41 t604.length co41 : Value).ownBlock ∧ some k_ ≠ (.slice Ao49 t613.length co49 : Value).ownBlock) (.slice Ao57 t620.length co57) t620) := ⟨by (with_reducible repeat (first | apply Kd.R_alloc | apply Kd.R_drewN | apply Kd.R_drew)); exact Kd.R_mono (Kd.R_far (p := ⟨gb624, 2, none⟩) (Kd.R_far (p := ⟨gb624, 1, none⟩) (Kd.R_far (p := ⟨gb624, 0, none⟩) (Kd.R_types HO622.out BK624.out (by decide)) (fun _ hk => hk.2) (.int .i64 t618)) (fun _ hk => hk.2) (.int .i64 t619)) (fun _ hk => hk.2) (.slice Ao57 t620.length co57)) (fun _ hk => ⟨hk.1.1.1.1.2, ⟨hk.1.1.1.2, ⟨hk.1.1.2, hk.1.2⟩⟩⟩)⟩
        have n5_ : Aside0 ((((w51.setCell ⟨gb624, 0, none⟩ (.int .i64 t618)).setCell ⟨gb624, 1, none⟩ (.int .i64 t619)).setCell ⟨gb624, 2, none⟩ (.slice Ao57 t620.length co57)).heap[gb589]? = some (.cells #[.int .i64 t584, .int .i64 t585, .slice Ao26 t586.length co26] 24 (0, 0))) := ⟨by (with_reducible repeat (first | refine blk_drewN ?_ _ | refine blk_drew ?_ | refine blk_alloc ?_ _)); refine blk_far ?_ NB589_624.out _; (with_reducible repeat (first | refine blk_drewN ?_ _ | refine blk_drew ?_ | refine blk_alloc ?_ _)); refine blk_far ?_ NB589_624.out _; (with_reducible repeat (first | refine blk_drewN ?_ _ | refine blk_drew ?_ | refine blk_alloc ?_ _)); refine blk_far ?_ NB589_624.out _; (with_reducible repeat (first | refine blk_drewN ?_ _ | refine blk_drew ?_ | refine blk_alloc ?_ _)); exact BK589.out⟩
        have n6_ : Aside0 ((((w51.setCell ⟨gb624, 0, none⟩ (.int .i64 t618)).setCell ⟨gb624, 1, none⟩ (.int .i64 t619)).setCell ⟨gb624, 2, none⟩ (.slice Ao57 t620.length co57)).heap[gb601]? = some (.cells #[.int .i64 t595, .int .i64 t596, .slice Ao35 t597.length co35] 24 (0, 0))) := ⟨by (with_reducible repeat (first | refine blk_drewN ?_ _ | refine blk_drew ?_ | refine blk_alloc ?_ _)); refine blk_far ?_ NB601_624.out _; (with_reducible repeat (first | refine blk_drewN ?_ _ | refine blk_drew ?_ | refine blk_alloc ?_ _)); refine blk_far ?_ NB601_624.out _; (with_reducible repeat (first | refine blk_drewN ?_ _ | refine blk_drew ?_ | refine blk_alloc ?_ _)); refine blk_far ?_ NB601_624.out _; (with_reducible repeat (first | refine blk_drewN ?_ _ | refine blk_drew ?_ | refine blk_alloc ?_ _)); exact BK601.out⟩
        have n7_ : Aside0 ((((w51.setCell ⟨gb624, 0, none⟩ (.int .i64 t618)).setCell ⟨gb624, 1, none⟩ (.int .i64 t619)).setCell ⟨gb624, 2, none⟩ (.slice Ao57 t620.length co57)).heap[gb608]? = some (.cells #[.int .i64 t602, .int .i64 t603, .slice Ao41 t604.length co41] 24 (0, 0))) := ⟨by (with_reducible repeat (first | refine blk_drewN ?_ _ | refine blk_drew ?_ | refine blk_alloc ?_ _)); refine blk_far ?_ NB608_624.out _; (with_reducible repeat (first | refine blk_drewN ?_ _ | refine blk_drew ?_ | refine blk_alloc ?_ _)); refine blk_far ?_ NB608_624.out _; (with_reducible repeat (first | refine blk_drewN ?_ _ | refine blk_drew ?_ | refine blk_alloc ?_ _)); refine blk_far ?_ NB608_624.out _; (with_reducible repeat (first | refine blk_drewN ?_ _ | refine blk_drew ?_ | refine blk_alloc ?_ _)); exact BK608.out⟩
        have n8_ : Aside0 ((((w51.setCell ⟨gb624, 0, none⟩ (.int .i64 t618)).setCell ⟨gb624, 1, none⟩ (.int .i64 t619)).setCell ⟨gb624, 2, none⟩ (.slice Ao57 t620.length co57)).heap[gb617]? = some (.cells #[.int .i64 t611, .int .i64 t612, .slice Ao49 t613.length co49] 24 (0, 0))) := ⟨by (with_reducible repeat (first | refine blk_drewN ?_ _ | refine blk_drew ?_ | refine blk_alloc ?_ _)); refine blk_far ?_ NB617_624.out _; (with_reducible repeat (first | refine blk_drewN ?_ _ | refine blk_drew ?_ | refine blk_alloc ?_ _)); refine blk_far ?_ NB617_624.out _; (with_reducible repeat (first | refine blk_drewN ?_ _ | refine blk_drew ?_ | refine blk_alloc ?_ _)); refine blk_far ?_ NB617_624.out _; (with_reducible repeat (first | refine blk_drewN ?_ _ | refine blk_drew ?_ | refine blk_alloc ?_ _)); exact BK617.out⟩
        have n9_ : Aside0 ((((w51.setCell ⟨gb624, 0, none⟩ (.int .i64 t618)).setCell ⟨gb624, 1, none⟩ (.int .i64 t619)).setCell ⟨gb624, 2, none⟩ (.slice Ao57 t620.length co57)).heap[gb624]? = some (.cells #[.int .i64 t618, .int .i64 t619, .slice Ao57 t620.length co57] 24 (0, 0))) := ⟨by (with_reducible repeat (first | refine blk_drewN ?_ _ | refine blk_drew ?_ | refine blk_alloc ?_ _)); refine blk_put (cs := #[.int .i64 t618, .int .i64 t619, .slice none 0 0]) ?_ 2 _ rfl; (with_reducible repeat (first | refine blk_drewN ?_ _ | refine blk_drew ?_ | refine blk_alloc ?_ _)); refine blk_put (cs := #[.int .i64 t618, .int .i64 0, .slice none 0 0]) ?_ 1 _ rfl; (with_reducible repeat (first | refine blk_drewN ?_ _ | refine blk_drew ?_ | refine blk_alloc ?_ _)); refine blk_put (cs := #[.int .i64 0, .int .i64 0, .slice none 0 0]) ?_ 0 _ rfl; (with_reducible repeat (first | refine blk_drewN ?_ _ | refine blk_drew ?_ | refine blk_alloc ?_ _)); exact BK624.out⟩
        have n10_ : Aside0 (Below w.heap.size w (((w51.setCell ⟨gb624, 0, none⟩ (.int .i64 t618)).setCell ⟨gb624, 1, none⟩ (.int .i64 t619)).setCell ⟨gb624, 2, none⟩ (.slice Ao57 t620.length co57))) := ⟨bl_⟩
        (try clear HO588)
        (try clear HO599)
        (try clear HO606)
        (try clear HO615)
        (try clear HO622)
        (try clear BK589)
        (try clear BK601)
        (try clear BK608)
        (try clear BK617)
        (try clear BK624)
        (try clear HB)
        generalize (((w51.setCell ⟨gb624, 0, none⟩ (.int .i64 t618)).setCell ⟨gb624, 1, none⟩ (.int .i64 t619)).setCell ⟨gb624, 2, none⟩ (.slice Ao57 t620.length co57)) = w58 at n0_ n1_ n2_ n3_ n4_ n5_ n6_ n7_ n8_ n9_ n10_ ⊢
        have HO588 := n0_
        have HO599 := n1_
        have HO606 := n2_
        have HO615 := n3_
        have HO622 := n4_
        have BK589 := n5_
        have BK601 := n6_
        have BK608 := n7_
        have BK617 := n8_
        have BK624 := n9_
        have HB := n10_
        clear n0_ n1_ n2_ n3_ n4_ n5_ n6_ n7_ n8_ n9_ n10_
        have n0_ := Aside0.mk (Kd.Q_drew HO588.out)
        have n1_ := Aside0.mk (Kd.R_drew HO599.out)
        have n2_ := Aside0.mk (Kd.R_drew HO606.out)
        have n3_ := Aside0.mk (Kd.R_drew HO615.out)
        have n4_ := Aside0.mk (Kd.R_drew HO622.out)
        have n5_ := Aside0.mk (blk_drew BK589.out)
        have n6_ := Aside0.mk (blk_drew BK601.out)
        have n7_ := Aside0.mk (blk_drew BK608.out)
        have n8_ := Aside0.mk (blk_drew BK617.out)
        have n9_ := Aside0.mk (blk_drew BK624.out)
        have n10_ := Aside0.mk (below_drew1 HB.out)
        clear HO588
        clear HO599
        clear HO606
        clear HO615
        clear HO622
        clear BK589
        clear BK601
        clear BK608
        clear BK617
        clear BK624
        clear HB
        have HO588 := n0_
        have HO599 := n1_
        have HO606 := n2_
        have HO615 := n3_
        have HO622 := n4_
        have BK589 := n5_
        have BK601 := n6_
        have BK608 := n7_
        have BK617 := n8_
        have BK624 := n9_
        have HB := n10_
        clear n0_ n1_ n2_ n3_ n4_ n5_ n6_ n7_ n8_ n9_ n10_
        refine start_ (n := 36) (S := fun w' => w'.cell? ⟨gb601, 0, none⟩ = some (.int .i64 t595) ∧ w'.cell? ⟨gb601, 1, none⟩ = some (.int .i64 t596) ∧ w'.cell? ⟨gb601, 2, none⟩ = some (.slice Ao35 t597.length co35) ∧ w'.cell? ⟨gb608, 0, none⟩ = some (.int .i64 t602) ∧ w'.cell? ⟨gb608, 1, none⟩ = some (.int .i64 t603) ∧ w'.cell? ⟨gb608, 2, none⟩ = some (.slice Ao41 t604.length co41) ∧ w'.cell? ⟨gb617, 0, none⟩ = some (.int .i64 t611) ∧ w'.cell? ⟨gb617, 1, none⟩ = some (.int .i64 t612) ∧ w'.cell? ⟨gb617, 2, none⟩ = some (.slice Ao49 t613.length co49) ∧ w'.cell? ⟨gb624, 0, none⟩ = some (.int .i64 t618) ∧ w'.cell? ⟨gb624, 1, none⟩ = some (.int .i64 t619) ∧ w'.cell? ⟨gb624, 2, none⟩ = some (.slice Ao57 t620.length co57) ∧ w'.cell? ⟨gb589, 0, none⟩ = some (.int .i64 t584) ∧ w'.cell? ⟨gb589, 1, none⟩ = some (.int .i64 t585) ∧ w'.cell? ⟨gb589, 2, none⟩ = some (.slice Ao26 t586.length co26)) (ds := []) #[false, false, false, false, false, false, false, false, false, false, false, false, false, false, false, false, false, false, false, false, false, false, false, false, false, false, false, false, false, false, false, false, false, false, false, false] (by kernel_rfl) rfl rfl ⟨(blk_cell BK601.out 0).trans rfl, (blk_cell BK601.out 1).trans rfl, (blk_cell BK601.out 2).trans rfl, (blk_cell BK608.out 0).trans rfl, (blk_cell BK608.out 1).trans rfl, (blk_cell BK608.out 2).trans rfl, (blk_cell BK617.out 0).trans rfl, (blk_cell BK617.out 1).trans rfl, (blk_cell BK617.out 2).trans rfl, (blk_cell BK624.out 0).trans rfl, (blk_cell BK624.out 1).trans rfl, (blk_cell BK624.out 2).trans rfl, (blk_cell BK589.out 0).trans rfl, (blk_cell BK589.out 1).trans rfl, (blk_cell BK589.out 2).trans rfl⟩ (fun hHeld => ?_); refine with_tabW laws_FnCallTextsTold.tab12 laws_FnCallTextsTold.bits12 (fun HT_ HW_ => ?_)
        generalize w58.drew = w59 at HO588 HO599 HO606 HO615 HO622 BK589 BK601 BK608 BK617 BK624 HB hHeld ⊢
        refine pure_ (i := 0) (N := some 62) (v := ?_) (a' := ?_) #[true, false, false, false, false, false, false, false, false, false, false, false, false, false, false, false, false, false, false, false, false, false, false, false, false, false, false, false, false, false, false, false, false, false, false, false] rfl rfl (any_of HT_.out (by kernel_rfl)) (fun _ _ _ h => h) (Or.inl ⟨by rfl, ?_⟩) ?_ ?_
        rotate_left
        ·intro w'
         go_simp
         with_reducible rfl
        rotate_left
        ·simp only [Act.put, List.setIfInBounds_toArray, List.set_cons_zero, List.set_cons_succ, i64_w, i32_w]
         rfl
        refine pure_ (i := 1) (N := some 63) (v := ?_) (a' := ?_) #[true, true, false, false, false, false, false, false, false, false, false, false, false, false, false, false, false, false, false, false, false, false, false, false, false, false, false, false, false, false, false, false, false, false, false, false] rfl rfl (any_of HT_.out (by kernel_rfl)) (fun _ _ _ h => h) (Or.inl ⟨by rfl, ?_⟩) ?_ ?_
        rotate_left
        ·intro w'
         go_simp
         with_reducible rfl
        rotate_left
        ·simp only [Act.put, List.setIfInBounds_toArray, List.set_cons_zero, List.set_cons_succ, i64_w, i32_w]
         rfl
        refine pure_ (i := 2) (N := some 64) (v := ?_) (a' := ?_) #[true, true, true, false, false, false, false, false, false, false, false, false, false, false, false, false, false, false, false, false, false, false, false, false, false, false, false, false, false, false, false, false, false, false, false, false] rfl rfl (any_of HT_.out (by kernel_rfl)) (fun _ _ _ h => h) (Or.inl ⟨by rfl, ?_⟩) ?_ ?_
        rotate_left
        ·intro w'
         go_simp
         with_reducible rfl
        rotate_left
        ·simp only [Act.put, List.setIfInBounds_toArray, List.set_cons_zero, List.set_cons_succ, i64_w, i32_w]
         rfl
        refine pure_ (i := 3) (N := some 65) (v := ?_) (a' := ?_) #[true, true, true, true, false, false, false, false, false, false, false, false, false, false, false, false, false, false, false, false, false, false, false, false, false, false, false, false, false, false, false, false, false, false, false, false] rfl rfl (any_of HT_.out (by kernel_rfl)) (fun _ _ _ h => h) (Or.inl ⟨by rfl, ?_⟩) ?_ ?_
        rotate_left
        ·intro w'
         go_simp
         with_reducible rfl
        rotate_left
        ·simp only [Act.put, List.setIfInBounds_toArray, List.set_cons_zero, List.set_cons_succ, i64_w, i32_w]
         rfl
        refine pure_ (i := 4) (N := some 66) (v := ?_) (a' := ?_) #[true, true, true, true, true, false, false, false, false, false, false, false, false, false, false, false, false, false, false, false, false, false, false, false, false, false, false, false, false, false, false, false, false, false, false, false] rfl rfl (any_of HT_.out (by kernel_rfl)) (fun _ _ _ h => h) (Or.inl ⟨by rfl, ?_⟩) ?_ ?_
        rotate_left
        ·intro w'
         go_simp
         with_reducible rfl
        rotate_left
        ·simp only [Act.put, List.setIfInBounds_toArray, List.set_cons_zero, List.set_cons_succ, i64_w, i32_w]
         rfl
        refine pure_ (i := 5) (N := some 67) (v := ?_) (a' := ?_) #[true, true, true, true, true, true, false, false, false, false, false, false, false, false, false, false, false, false, false, false, false, false, false, false, false, false, false, false, false, false, false, false, false, false, false, false] rfl rfl (any_of HT_.out (by kernel_rfl)) (fun _ _ _ h => h) (Or.inl ⟨by rfl, ?_⟩) ?_ ?_
        rotate_left
        ·intro w'
         go_simp
         with_reducible rfl
        rotate_left
        ·simp only [Act.put, List.setIfInBounds_toArray, List.set_cons_zero, List.set_cons_succ, i64_w, i32_w]
         rfl
        refine pure_ (i := 6) (N := some 68) (v := ?_) (a' := ?_) #[true, true, true, true, true, true, true, false, false, false, false, false, false, false, false, false, false, false, false, false, false, false, false, false, false, false, false, false, false, false, false, false, false, false, false, false] rfl rfl (any_of HT_.out (by kernel_rfl)) (fun _ _ _ h => h) (Or.inl ⟨by rfl, ?_⟩) ?_ ?_
        rotate_left
        ·intro w'
         go_simp
         with_reducible rfl
        rotate_left
        ·simp only [Act.put, List.setIfInBounds_toArray, List.set_cons_zero, List.set_cons_succ, i64_w, i32_w]
         rfl
        refine pure_ (i := 7) (N := some 69) (v := ?_) (a' := ?_) #[true, true, true, true, true, true, true, true, false, false, false, false, false, false, false, false, false, false, false, false, false, false, false, false, false, false, false, false, false, false, false, false, false, false, false, false] rfl rfl (any_of HT_.out (by kernel_rfl)) (fun _ _ _ h => h) (Or.inl ⟨by rfl, ?_⟩) ?_ ?_
        rotate_left
        ·intro w'
         go_simp
         with_reducible rfl
        rotate_left
        ·simp only [Act.put, List.setIfInBounds_toArray, List.set_cons_zero, List.set_cons_succ, i64_w, i32_w]
         rfl
        refine pure_ (i := 8) (N := some 70) (v := ?_) (a' := ?_) #[true, true, true, true, true, true, true, true, true, false, false, false, false, false, false, false, false, false, false, false, false, false, false, false, false, false, false, false, false, false, false, false, false, false, false, false] rfl rfl (any_of HT_.out (by kernel_rfl)) (fun _ _ _ h => h) (Or.inl ⟨by rfl, ?_⟩) ?_ ?_
        rotate_left
        ·intro w'
         go_simp
         with_reducible rfl
        rotate_left
        ·simp only [Act.put, List.setIfInBounds_toArray, List.set_cons_zero, List.set_cons_succ, i64_w, i32_w]
         rfl
        refine pure_ (i := 9) (N := some 71) (v := ?_) (a' := ?_) #[true, true, true, true, true, true, true, true, true, true, false, false, false, false, false, false, false, false, false, false, false, false, false, false, false, false, false, false, false, false, false, false, false, false, false, false] rfl rfl (any_of HT_.out (by kernel_rfl)) (fun _ _ _ h => h) (Or.inl ⟨by rfl, ?_⟩) ?_ ?_
        rotate_left
        ·intro w'
         go_simp
         with_reducible rfl
        rotate_left
        ·simp only [Act.put, List.setIfInBounds_toArray, List.set_cons_zero, List.set_cons_succ, i64_w, i32_w]
         rfl
        refine pure_ (i := 10) (N := some 72) (v := ?_) (a' := ?_) #[true, true, true, true, true, true, true, true, true, true, true, false, false, false, false, false, false, false, false, false, false, false, false, false, false, false, false, false, false, false, false, false, false, false, false, false] rfl rfl (any_of HT_.out (by kernel_rfl)) (fun _ _ _ h => h) (Or.inl ⟨by rfl, ?_⟩) ?_ ?_
        rotate_left
        ·intro w'
         go_simp
         with_reducible rfl
        rotate_left
        ·simp only [Act.put, List.setIfInBounds_toArray, List.set_cons_zero, List.set_cons_succ, i64_w, i32_w]
         rfl
        refine pure_ (i := 11) (N := some 73) (v := ?_) (a' := ?_) #[true, true, true, true, true, true, true, true, true, true, true, true, false, false, false, false, false, false, false, false, false, false, false, false, false, false, false, false, false, false, false, false, false, false, false, false] rfl rfl (any_of HT_.out (by kernel_rfl)) (fun _ _ _ h => h) (Or.inl ⟨by rfl, ?_⟩) ?_ ?_
        rotate_left
        ·intro w'
         go_simp
         with_reducible rfl
        rotate_left
        ·simp only [Act.put, List.setIfInBounds_toArray, List.set_cons_zero, List.set_cons_succ, i64_w, i32_w]
         rfl
        refine pure_ (i := 12) (N := some 74) (v := ?_) (a' := ?_) #[true, true, true, true, true, true, true, true, true, true, true, true, true, false, false, false, false, false, false, false, false, false, false, false, false, false, false, false, false, false, false, false, false, false, false, false] rfl rfl (any_of HT_.out (by kernel_rfl)) (fun _ _ _ h => h) (Or.inl ⟨by rfl, ?_⟩) ?_ ?_
        rotate_left
        ·intro w'
         go_simp
         with_reducible rfl
        rotate_left
        ·simp only [Act.put, List.setIfInBounds_toArray, List.set_cons_zero, List.set_cons_succ, i64_w, i32_w]
         rfl
        refine pure_ (i := 13) (N := some 75) (v := ?_) (a' := ?_) #[true, true, true, true, true, true, true, true, true, true, true, true, true, true, false, false, false, false, false, false, false, false, false, false, false, false, false, false, false, false, false, false, false, false, false, false] rfl rfl (any_of HT_.out (by kernel_rfl)) (fun _ _ _ h => h) (Or.inl ⟨by rfl, ?_⟩) ?_ ?_
        rotate_left
        ·intro w'
         go_simp
         with_reducible rfl
        rotate_left
        ·simp only [Act.put, List.setIfInBounds_toArray, List.set_cons_zero, List.set_cons_succ, i64_w, i32_w]
         rfl
        refine take_ (i := 14) (N := some 76) (v := ?_) (a' := ?_) #[true, true, true, true, true, true, true, true, true, true, true, true, true, true, true, false, false, false, false, false, false, false, false, false, false, false, false, false, false, false, false, false, false, false, false, false] rfl rfl (take_ofW HT_.out HW_.out (by kernel_rfl)) (fun _ _ _ h => h) (Or.inl ⟨by rfl, ?_⟩) hHeld ?_ ?_
        rotate_left
        ·rintro w' ⟨s0, s1, s2, s3, s4, s5, s6, s7, s8, s9, s10, s11, s12, s13, s14⟩
         go_simp
         with_reducible rfl
        rotate_left
        ·simp only [Act.put, List.setIfInBounds_toArray, List.set_cons_zero, List.set_cons_succ, i64_w, i32_w]
         rfl
        refine take_ (i := 15) (N := some 77) (v := ?_) (a' := ?_) #[true, true, true, true, true, true, true, true, true, true, true, true, true, true, true, true, false, false, false, false, false, false, false, false, false, false, false, false, false, false, false, false, false, false, false, false] rfl rfl (take_ofW HT_.out HW_.out (by kernel_rfl)) (fun _ _ _ h => h) (Or.inl ⟨by rfl, ?_⟩) hHeld ?_ ?_
        rotate_left
        ·rintro w' ⟨s0, s1, s2, s3, s4, s5, s6, s7, s8, s9, s10, s11, s12, s13, s14⟩
         go_simp
         with_reducible rfl
        rotate_left
        ·simp only [Act.put, List.setIfInBounds_toArray, List.set_cons_zero, List.set_cons_succ, i64_w, i32_w]
         rfl
        refine one_ (i := 16) (N := some 78) #[true, true, true, true, true, true, true, true, true, true, true, true, true, true, true, true, true, false, false, false, false, false, false, false, false, false, false, false, false, false, false, false, false, false, false, false] rfl rfl (one_of HT_.out (by kernel_rfl)) (by decide) (fun K hK => ?_)
        refine goes_ Try.func26 (by kernel_rfl) rfl #[.agg #[.int .i64 t595, .int .i64 t596, .slice Ao35 t597.length co35], .agg #[.int .i64 t602, .int .i64 t603, .slice Ao41 t604.length co41]] (by rfl) rfl rfl lm_ ?_
        with_reducible refine (laws_sameCall.calls k t595 t596 _ _ t597 t602 t603 _ _ t604 true _ ?side1 ?side2 ?side3 ?side4 A16.out).mono ?_
        (case side1 => repeat (first | exact (Kd.R_reads' HO599.out).2.2 | (with_reducible refine Kd.C_alloc ?_ _) | (with_reducible refine Kd.C_drewN ?_ _) | (with_reducible refine Kd.C_drew ?_)))
        (case side2 => exact (Kd.R_reads' HO599.out).2.1)
        (case side3 => repeat (first | exact (Kd.R_reads' HO606.out).2.2 | (with_reducible refine Kd.C_alloc ?_ _) | (with_reducible refine Kd.C_drewN ?_ _) | (with_reducible refine Kd.C_drew ?_)))
        (case side4 => exact (Kd.R_reads' HO606.out).2.1)
        rintro e w60 ⟨rfl, hb⟩
        refine ⟨_, rfl, ?_⟩
        have n0_ := Aside0.mk (Kd.Q_below (by (with_reducible repeat (first | apply Kd.Q_alloc | apply Kd.Q_drewN | apply Kd.Q_drew)); exact HO588.out) hb)
        have n1_ := Aside0.mk (Kd.R_below (ra_ HO599.out) hb)
        have n2_ := Aside0.mk (Kd.R_below (ra_ HO606.out) hb)
        have n3_ := Aside0.mk (Kd.R_below (ra_ HO615.out) hb)
        have n4_ := Aside0.mk (Kd.R_below (ra_ HO622.out) hb)
        have n5_ := Aside0.mk (blk_below (g := gb589) (o := .cells #[.int .i64 t584, .int .i64 t585, .slice Ao26 t586.length co26] 24 (0, 0)) (bk_ BK589.out) hb)
        have n6_ := Aside0.mk (blk_below (g := gb601) (o := .cells #[.int .i64 t595, .int .i64 t596, .slice Ao35 t597.length co35] 24 (0, 0)) (bk_ BK601.out) hb)
        have n7_ := Aside0.mk (blk_below (g := gb608) (o := .cells #[.int .i64 t602, .int .i64 t603, .slice Ao41 t604.length co41] 24 (0, 0)) (bk_ BK608.out) hb)
        have n8_ := Aside0.mk (blk_below (g := gb617) (o := .cells #[.int .i64 t611, .int .i64 t612, .slice Ao49 t613.length co49] 24 (0, 0)) (bk_ BK617.out) hb)
        have n9_ := Aside0.mk (blk_below (g := gb624) (o := .cells #[.int .i64 t618, .int .i64 t619, .slice Ao57 t620.length co57] 24 (0, 0)) (bk_ BK624.out) hb)
        have n10_ := Aside0.mk (below_step bl_ hb)
        clear HO588
        clear HO599
        clear HO606
        clear HO615
        clear HO622
        clear BK589
        clear BK601
        clear BK608
        clear BK617
        clear BK624
        clear HB
        have HO588 := n0_
        have HO599 := n1_
        have HO606 := n2_
        have HO615 := n3_
        have HO622 := n4_
        have BK589 := n5_
        have BK601 := n6_
        have BK608 := n7_
        have BK617 := n8_
        have BK624 := n9_
        have HB := n10_
        clear n0_ n1_ n2_ n3_ n4_ n5_ n6_ n7_ n8_ n9_ n10_
        (try clear hb)
        (try clear hb2)
        (try clear hk)
        (try clear hi)
        refine hK.out _ _ ⟨(blk_cell BK601.out 0).trans rfl, (blk_cell BK601.out 1).trans rfl, (blk_cell BK601.out 2).trans rfl, (blk_cell BK608.out 0).trans rfl, (blk_cell BK608.out 1).trans rfl, (blk_cell BK608.out 2).trans rfl, (blk_cell BK617.out 0).trans rfl, (blk_cell BK617.out 1).trans rfl, (blk_cell BK617.out 2).trans rfl, (blk_cell BK624.out 0).trans rfl, (blk_cell BK624.out 1).trans rfl, (blk_cell BK624.out 2).trans rfl, (blk_cell BK589.out 0).trans rfl, (blk_cell BK589.out 1).trans rfl, (blk_cell BK589.out 2).trans rfl⟩ (fun hHeld => ?_)
        clear hK K
        refine norm_ (a' := ?_) ?_ ?_
        rotate_left
        ·show Act.put _ (some 78) _ = _
         simp only [Act.put, List.setIfInBounds_toArray, List.set_cons_zero, List.set_cons_succ, i64_w, i32_w]
         rfl
        refine pure_ (i := 17) (N := some 79) (v := ?_) (a' := ?_) #[true, true, true, true, true, true, true, true, true, true, true, true, true, true, true, true, true, true, false, false, false, false, false, false, false, false, false, false, false, false, false, false, false, false, false, false] rfl rfl (any_of HT_.out (by kernel_rfl)) (fun _ _ _ h => h) (Or.inl ⟨by rfl, ?_⟩) ?_ ?_
        rotate_left
        ·intro w'
         go_simp
         with_reducible rfl
        rotate_left
        ·simp only [Act.put, List.setIfInBounds_toArray, List.set_cons_zero, List.set_cons_succ, i64_w, i32_w]
         rfl
        refine pure_ (i := 18) (N := some 80) (v := ?_) (a' := ?_) #[true, true, true, true, true, true, true, true, true, true, true, true, true, true, true, true, true, true, true, false, false, false, false, false, false, false, false, false, false, false, false, false, false, false, false, false] rfl rfl (any_of HT_.out (by kernel_rfl)) (fun _ _ _ h => h) (Or.inl ⟨by rfl, ?_⟩) ?_ ?_
        rotate_left
        ·intro w'
         go_simp
         with_reducible rfl
        rotate_left
        ·simp only [Act.put, List.setIfInBounds_toArray, List.set_cons_zero, List.set_cons_succ, i64_w, i32_w]
         rfl
        refine pure_ (i := 19) (N := some 81) (v := ?_) (a' := ?_) #[true, true, true, true, true, true, true, true, true, true, true, true, true, true, true, true, true, true, true, true, false, false, false, false, false, false, false, false, false, false, false, false, false, false, false, false] rfl rfl (any_of HT_.out (by kernel_rfl)) (fun _ _ _ h => h) (Or.inl ⟨by rfl, ?_⟩) ?_ ?_
        rotate_left
        ·intro w'
         go_simp
         with_reducible rfl
        rotate_left
        ·simp only [Act.put, List.setIfInBounds_toArray, List.set_cons_zero, List.set_cons_succ, i64_w, i32_w]
         rfl
        refine pure_ (i := 20) (N := some 82) (v := ?_) (a' := ?_) #[true, true, true, true, true, true, true, true, true, true, true, true, true, true, true, true, true, true, true, true, true, false, false, false, false, false, false, false, false, false, false, false, false, false, false, false] rfl rfl (any_of HT_.out (by kernel_rfl)) (fun _ _ _ h => h) (Or.inl ⟨by rfl, ?_⟩) ?_ ?_
        rotate_left
        ·intro w'
         go_simp
         with_reducible rfl
        rotate_left
        ·simp only [Act.put, List.setIfInBounds_toArray, List.set_cons_zero, List.set_cons_succ, i64_w, i32_w]
         rfl
        refine pure_ (i := 21) (N := some 83) (v := ?_) (a' := ?_) #[true, true, true, true, true, true, true, true, true, true, true, true, true, true, true, true, true, true, true, true, true, true, false, false, false, false, false, false, false, false, false, false, false, false, false, false] rfl rfl (any_of HT_.out (by kernel_rfl)) (fun _ _ _ h => h) (Or.inl ⟨by rfl, ?_⟩) ?_ ?_
        rotate_left
        ·intro w'
         go_simp
         with_reducible rfl
        rotate_left
        ·simp only [Act.put, List.setIfInBounds_toArray, List.set_cons_zero, List.set_cons_succ, i64_w, i32_w]
         rfl
        refine pure_ (i := 22) (N := some 84) (v := ?_) (a' := ?_) #[true, true, true, true, true, true, true, true, true, true, true, true, true, true, true, true, true, true, true, true, true, true, true, false, false, false, false, false, false, false, false, false, false, false, false, false] rfl rfl (any_of HT_.out (by kernel_rfl)) (fun _ _ _ h => h) (Or.inl ⟨by rfl, ?_⟩) ?_ ?_
        rotate_left
        ·intro w'
         go_simp
         with_reducible rfl
        rotate_left
        ·simp only [Act.put, List.setIfInBounds_toArray, List.set_cons_zero, List.set_cons_succ, i64_w, i32_w]
         rfl
        refine pure_ (i := 23) (N := some 85) (v := ?_) (a' := ?_) #[true, true, true, true, true, true, true, true, true, true, true, true, true, true, true, true, true, true, true, true, true, true, true, true, false, false, false, false, false, false, false, false, false, false, false, false] rfl rfl (any_of HT_.out (by kernel_rfl)) (fun _ _ _ h => h) (Or.inl ⟨by rfl, ?_⟩) ?_ ?_
        rotate_left
        ·intro w'
         go_simp
         with_reducible rfl
        rotate_left
        ·simp only [Act.put, List.setIfInBounds_toArray, List.set_cons_zero, List.set_cons_succ, i64_w, i32_w]
         rfl
        refine take_ (i := 24) (N := some 86) (v := ?_) (a' := ?_) #[true, true, true, true, true, true, true, true, true, true, true, true, true, true, true, true, true, true, true, true, true, true, true, true, true, false, false, false, false, false, false, false, false, false, false, false] rfl rfl (take_ofW HT_.out HW_.out (by kernel_rfl)) (fun _ _ _ h => h) (Or.inl ⟨by rfl, ?_⟩) hHeld ?_ ?_
        rotate_left
        ·rintro w' ⟨s0, s1, s2, s3, s4, s5, s6, s7, s8, s9, s10, s11, s12, s13, s14⟩
         go_simp
         with_reducible rfl
        rotate_left
        ·simp only [Act.put, List.setIfInBounds_toArray, List.set_cons_zero, List.set_cons_succ, i64_w, i32_w]
         rfl
        refine take_ (i := 25) (N := some 87) (v := ?_) (a' := ?_) #[true, true, true, true, true, true, true, true, true, true, true, true, true, true, true, true, true, true, true, true, true, true, true, true, true, true, false, false, false, false, false, false, false, false, false, false] rfl rfl (take_ofW HT_.out HW_.out (by kernel_rfl)) (fun _ _ _ h => h) (Or.inl ⟨by rfl, ?_⟩) hHeld ?_ ?_
        rotate_left
        ·rintro w' ⟨s0, s1, s2, s3, s4, s5, s6, s7, s8, s9, s10, s11, s12, s13, s14⟩
         go_simp
         with_reducible rfl
        rotate_left
        ·simp only [Act.put, List.setIfInBounds_toArray, List.set_cons_zero, List.set_cons_succ, i64_w, i32_w]
         rfl
        refine one_ (i := 26) (N := some 88) #[true, true, true, true, true, true, true, true, true, true, true, true, true, true, true, true, true, true, true, true, true, true, true, true, true, true, true, false, false, false, false, false, false, false, false, false] rfl rfl (one_of HT_.out (by kernel_rfl)) (by decide) (fun K hK => ?_)
        refine goes_ Try.func26 (by kernel_rfl) rfl #[.agg #[.int .i64 t611, .int .i64 t612, .slice Ao49 t613.length co49], .agg #[.int .i64 t618, .int .i64 t619, .slice Ao57 t620.length co57]] (by rfl) rfl rfl lm_ ?_
        with_reducible refine (laws_sameCall.calls k t611 t612 _ _ t613 t618 t619 _ _ t620 true _ ?side1 ?side2 ?side3 ?side4 A19.out).mono ?_
        (case side1 => repeat (first | exact (Kd.R_reads' HO615.out).2.2 | (with_reducible refine Kd.C_alloc ?_ _) | (with_reducible refine Kd.C_drewN ?_ _) | (with_reducible refine Kd.C_drew ?_)))
        (case side2 => exact (Kd.R_reads' HO615.out).2.1)
        (case side3 => repeat (first | exact (Kd.R_reads' HO622.out).2.2 | (with_reducible refine Kd.C_alloc ?_ _) | (with_reducible refine Kd.C_drewN ?_ _) | (with_reducible refine Kd.C_drew ?_)))
        (case side4 => exact (Kd.R_reads' HO622.out).2.1)
        rintro e w61 ⟨rfl, hb⟩
        refine ⟨_, rfl, ?_⟩
        have n0_ := Aside0.mk (Kd.Q_below (by (with_reducible repeat (first | apply Kd.Q_alloc | apply Kd.Q_drewN | apply Kd.Q_drew)); exact HO588.out) hb)
        have n1_ := Aside0.mk (Kd.R_below (ra_ HO599.out) hb)
        have n2_ := Aside0.mk (Kd.R_below (ra_ HO606.out) hb)
        have n3_ := Aside0.mk (Kd.R_below (ra_ HO615.out) hb)
        have n4_ := Aside0.mk (Kd.R_below (ra_ HO622.out) hb)
        have n5_ := Aside0.mk (blk_below (g := gb589) (o := .cells #[.int .i64 t584, .int .i64 t585, .slice Ao26 t586.length co26] 24 (0, 0)) (bk_ BK589.out) hb)
        have n6_ := Aside0.mk (blk_below (g := gb601) (o := .cells #[.int .i64 t595, .int .i64 t596, .slice Ao35 t597.length co35] 24 (0, 0)) (bk_ BK601.out) hb)
        have n7_ := Aside0.mk (blk_below (g := gb608) (o := .cells #[.int .i64 t602, .int .i64 t603, .slice Ao41 t604.length co41] 24 (0, 0)) (bk_ BK608.out) hb)
        have n8_ := Aside0.mk (blk_below (g := gb617) (o := .cells #[.int .i64 t611, .int .i64 t612, .slice Ao49 t613.length co49] 24 (0, 0)) (bk_ BK617.out) hb)
        have n9_ := Aside0.mk (blk_below (g := gb624) (o := .cells #[.int .i64 t618, .int .i64 t619, .slice Ao57 t620.length co57] 24 (0, 0)) (bk_ BK624.out) hb)
        have n10_ := Aside0.mk (below_step bl_ hb)
        clear HO588
        clear HO599
        clear HO606
        clear HO615
        clear HO622
        clear BK589
        clear BK601
        clear BK608
        clear BK617
        clear BK624
        clear HB
        have HO588 := n0_
        have HO599 := n1_
        have HO606 := n2_
        have HO615 := n3_
        have HO622 := n4_
        have BK589 := n5_
        have BK601 := n6_
        have BK608 := n7_
        have BK617 := n8_
        have BK624 := n9_
        have HB := n10_
        clear n0_ n1_ n2_ n3_ n4_ n5_ n6_ n7_ n8_ n9_ n10_
        (try clear hb)
        (try clear hb2)
        (try clear hk)
        (try clear hi)
        refine hK.out _ _ ⟨(blk_cell BK601.out 0).trans rfl, (blk_cell BK601.out 1).trans rfl, (blk_cell BK601.out 2).trans rfl, (blk_cell BK608.out 0).trans rfl, (blk_cell BK608.out 1).trans rfl, (blk_cell BK608.out 2).trans rfl, (blk_cell BK617.out 0).trans rfl, (blk_cell BK617.out 1).trans rfl, (blk_cell BK617.out 2).trans rfl, (blk_cell BK624.out 0).trans rfl, (blk_cell BK624.out 1).trans rfl, (blk_cell BK624.out 2).trans rfl, (blk_cell BK589.out 0).trans rfl, (blk_cell BK589.out 1).trans rfl, (blk_cell BK589.out 2).trans rfl⟩ (fun hHeld => ?_)
        clear hK K
        refine norm_ (a' := ?_) ?_ ?_
        rotate_left
        ·show Act.put _ (some 88) _ = _
         simp only [Act.put, List.setIfInBounds_toArray, List.set_cons_zero, List.set_cons_succ, i64_w, i32_w]
         rfl
        refine pure_ (i := 27) (N := some 89) (v := ?_) (a' := ?_) #[true, true, true, true, true, true, true, true, true, true, true, true, true, true, true, true, true, true, true, true, true, true, true, true, true, true, true, true, false, false, false, false, false, false, false, false] rfl rfl (any_of HT_.out (by kernel_rfl)) (fun _ _ _ h => h) (Or.inl ⟨by rfl, ?_⟩) ?_ ?_
        rotate_left
        ·intro w'
         go_simp
         with_reducible rfl
        rotate_left
        ·simp only [Act.put, List.setIfInBounds_toArray, List.set_cons_zero, List.set_cons_succ, i64_w, i32_w]
         rfl
        refine pure_ (i := 28) (N := some 90) (v := ?_) (a' := ?_) #[true, true, true, true, true, true, true, true, true, true, true, true, true, true, true, true, true, true, true, true, true, true, true, true, true, true, true, true, true, false, false, false, false, false, false, false] rfl rfl (any_of HT_.out (by kernel_rfl)) (fun _ _ _ h => h) (Or.inl ⟨by rfl, ?_⟩) ?_ ?_
        rotate_left
        ·intro w'
         go_simp
         with_reducible rfl
        rotate_left
        ·simp only [Act.put, List.setIfInBounds_toArray, List.set_cons_zero, List.set_cons_succ, i64_w, i32_w]
         rfl
        refine take_ (i := 29) (N := some 91) (v := ?_) (a' := ?_) #[true, true, true, true, true, true, true, true, true, true, true, true, true, true, true, true, true, true, true, true, true, true, true, true, true, true, true, true, true, true, false, false, false, false, false, false] rfl rfl (take_ofW HT_.out HW_.out (by kernel_rfl)) (fun _ _ _ h => h) (Or.inl ⟨by rfl, ?_⟩) hHeld ?_ ?_
        rotate_left
        ·rintro w' ⟨s0, s1, s2, s3, s4, s5, s6, s7, s8, s9, s10, s11, s12, s13, s14⟩
         go_simp
         with_reducible rfl
        rotate_left
        ·simp only [Act.put, List.setIfInBounds_toArray, List.set_cons_zero, List.set_cons_succ, i64_w, i32_w]
         rfl
        refine take_ (i := 31) (N := some 93) (v := ?_) (a' := ?_) #[true, true, true, true, true, true, true, true, true, true, true, true, true, true, true, true, true, true, true, true, true, true, true, true, true, true, true, true, true, true, false, true, false, false, false, false] rfl rfl (take_ofW HT_.out HW_.out (by kernel_rfl)) (fun _ _ _ h => h) (Or.inl ⟨by rfl, ?_⟩) hHeld ?_ ?_
        rotate_left
        ·rintro w' ⟨s0, s1, s2, s3, s4, s5, s6, s7, s8, s9, s10, s11, s12, s13, s14⟩
         go_simp
         with_reducible rfl
        rotate_left
        ·simp only [Act.put, List.setIfInBounds_toArray, List.set_cons_zero, List.set_cons_succ, i64_w, i32_w]
         rfl
        refine one_ (i := 30) (N := some 92) #[true, true, true, true, true, true, true, true, true, true, true, true, true, true, true, true, true, true, true, true, true, true, true, true, true, true, true, true, true, true, true, true, false, false, false, false] rfl rfl (one_of HT_.out (by kernel_rfl)) (by decide) (fun K hK => ?_)
        refine goes_ Try.func24 (by kernel_rfl) rfl #[.agg #[.int .i64 t584, .int .i64 t585, .slice Ao26 t586.length co26]] (by rfl) rfl rfl lm_ ?_
        with_reducible refine (impl_ShowCall.calls k t584 t585 _ _ t586 t627 _ ?side1 ?side2 A21.out).mono ?_
        (case side1 => repeat (first | exact (Kd.Q_reads' HO588.out).2.2 | (with_reducible refine Kd.C_alloc ?_ _) | (with_reducible refine Kd.C_drewN ?_ _) | (with_reducible refine Kd.C_drew ?_)))
        (case side2 => exact (Kd.Q_reads' HO588.out).2.1)
        rintro e w62 ⟨rfl, hb⟩
        refine ⟨_, rfl, ?_⟩
        have n0_ := Aside0.mk (Kd.Q_below (by (with_reducible repeat (first | apply Kd.Q_alloc | apply Kd.Q_drewN | apply Kd.Q_drew)); exact HO588.out) hb)
        have n1_ := Aside0.mk (Kd.R_below (ra_ HO599.out) hb)
        have n2_ := Aside0.mk (Kd.R_below (ra_ HO606.out) hb)
        have n3_ := Aside0.mk (Kd.R_below (ra_ HO615.out) hb)
        have n4_ := Aside0.mk (Kd.R_below (ra_ HO622.out) hb)
        have n5_ := Aside0.mk (blk_below (g := gb589) (o := .cells #[.int .i64 t584, .int .i64 t585, .slice Ao26 t586.length co26] 24 (0, 0)) (bk_ BK589.out) hb)
        have n6_ := Aside0.mk (blk_below (g := gb601) (o := .cells #[.int .i64 t595, .int .i64 t596, .slice Ao35 t597.length co35] 24 (0, 0)) (bk_ BK601.out) hb)
        have n7_ := Aside0.mk (blk_below (g := gb608) (o := .cells #[.int .i64 t602, .int .i64 t603, .slice Ao41 t604.length co41] 24 (0, 0)) (bk_ BK608.out) hb)
        have n8_ := Aside0.mk (blk_below (g := gb617) (o := .cells #[.int .i64 t611, .int .i64 t612, .slice Ao49 t613.length co49] 24 (0, 0)) (bk_ BK617.out) hb)
        have n9_ := Aside0.mk (blk_below (g := gb624) (o := .cells #[.int .i64 t618, .int .i64 t619, .slice Ao57 t620.length co57] 24 (0, 0)) (bk_ BK624.out) hb)
        have n10_ := Aside0.mk (below_step bl_ hb)
        clear HO588
        clear HO599
        clear HO606
        clear HO615
        clear HO622
        clear BK589
        clear BK601
        clear BK608
        clear BK617
        clear BK624
        clear HB
        have HO588 := n0_
        have HO599 := n1_
        have HO606 := n2_
        have HO615 := n3_
        have HO622 := n4_
        have BK589 := n5_
        have BK601 := n6_
        have BK608 := n7_
        have BK617 := n8_
        have BK624 := n9_
        have HB := n10_
        clear n0_ n1_ n2_ n3_ n4_ n5_ n6_ n7_ n8_ n9_ n10_
        (try clear hb)
        (try clear hb2)
        (try clear hk)
        (try clear hi)
        refine hK.out _ _ ⟨(blk_cell BK601.out 0).trans rfl, (blk_cell BK601.out 1).trans rfl, (blk_cell BK601.out 2).trans rfl, (blk_cell BK608.out 0).trans rfl, (blk_cell BK608.out 1).trans rfl, (blk_cell BK608.out 2).trans rfl, (blk_cell BK617.out 0).trans rfl, (blk_cell BK617.out 1).trans rfl, (blk_cell BK617.out 2).trans rfl, (blk_cell BK624.out 0).trans rfl, (blk_cell BK624.out 1).trans rfl, (blk_cell BK624.out 2).trans rfl, (blk_cell BK589.out 0).trans rfl, (blk_cell BK589.out 1).trans rfl, (blk_cell BK589.out 2).trans rfl⟩ (fun hHeld => ?_)
        clear hK K
        refine norm_ (a' := ?_) ?_ ?_
        rotate_left
        ·show Act.put _ (some 92) _ = _
         simp only [Act.put, List.setIfInBounds_toArray, List.set_cons_zero, List.set_cons_succ, i64_w, i32_w]
         rfl
        refine one_ (i := 32) (N := some 94) #[true, true, true, true, true, true, true, true, true, true, true, true, true, true, true, true, true, true, true, true, true, true, true, true, true, true, true, true, true, true, true, true, true, false, false, false] rfl rfl (one_of HT_.out (by kernel_rfl)) (by decide) (fun K hK => ?_)
        refine goes_ Try.func32 (by kernel_rfl) rfl #[.agg #[.int .i64 t584, .int .i64 t585, .slice Ao26 t586.length co26]] (by rfl) rfl rfl lm_ ?_
        with_reducible refine (spec_ShowCall.calls k t584 t585 _ _ t586 t628 _ ?side1 ?side2 A22.out).mono ?_
        (case side1 => repeat (first | exact (Kd.Q_reads' HO588.out).2.2 | (with_reducible refine Kd.C_alloc ?_ _) | (with_reducible refine Kd.C_drewN ?_ _) | (with_reducible refine Kd.C_drew ?_)))
        (case side2 => exact (Kd.Q_reads' HO588.out).2.1)
        rintro e w63 ⟨rfl, hb⟩
        refine ⟨_, rfl, ?_⟩
        have n0_ := Aside0.mk (Kd.Q_below (by (with_reducible repeat (first | apply Kd.Q_alloc | apply Kd.Q_drewN | apply Kd.Q_drew)); exact HO588.out) hb)
        have n1_ := Aside0.mk (Kd.R_below (ra_ HO599.out) hb)
        have n2_ := Aside0.mk (Kd.R_below (ra_ HO606.out) hb)
        have n3_ := Aside0.mk (Kd.R_below (ra_ HO615.out) hb)
        have n4_ := Aside0.mk (Kd.R_below (ra_ HO622.out) hb)
        have n5_ := Aside0.mk (blk_below (g := gb589) (o := .cells #[.int .i64 t584, .int .i64 t585, .slice Ao26 t586.length co26] 24 (0, 0)) (bk_ BK589.out) hb)
        have n6_ := Aside0.mk (blk_below (g := gb601) (o := .cells #[.int .i64 t595, .int .i64 t596, .slice Ao35 t597.length co35] 24 (0, 0)) (bk_ BK601.out) hb)
        have n7_ := Aside0.mk (blk_below (g := gb608) (o := .cells #[.int .i64 t602, .int .i64 t603, .slice Ao41 t604.length co41] 24 (0, 0)) (bk_ BK608.out) hb)
        have n8_ := Aside0.mk (blk_below (g := gb617) (o := .cells #[.int .i64 t611, .int .i64 t612, .slice Ao49 t613.length co49] 24 (0, 0)) (bk_ BK617.out) hb)
        have n9_ := Aside0.mk (blk_below (g := gb624) (o := .cells #[.int .i64 t618, .int .i64 t619, .slice Ao57 t620.length co57] 24 (0, 0)) (bk_ BK624.out) hb)
        have n10_ := Aside0.mk (below_step bl_ hb)
        clear HO588
        clear HO599
        clear HO606
        clear HO615
        clear HO622
        clear BK589
        clear BK601
        clear BK608
        clear BK617
        clear BK624
        clear HB
        have HO588 := n0_
        have HO599 := n1_
        have HO606 := n2_
        have HO615 := n3_
        have HO622 := n4_
        have BK589 := n5_
        have BK601 := n6_
        have BK608 := n7_
        have BK617 := n8_
        have BK624 := n9_
        have HB := n10_
        clear n0_ n1_ n2_ n3_ n4_ n5_ n6_ n7_ n8_ n9_ n10_
        (try clear hb)
        (try clear hb2)
        (try clear hk)
        (try clear hi)
        refine hK.out _ _ ⟨(blk_cell BK601.out 0).trans rfl, (blk_cell BK601.out 1).trans rfl, (blk_cell BK601.out 2).trans rfl, (blk_cell BK608.out 0).trans rfl, (blk_cell BK608.out 1).trans rfl, (blk_cell BK608.out 2).trans rfl, (blk_cell BK617.out 0).trans rfl, (blk_cell BK617.out 1).trans rfl, (blk_cell BK617.out 2).trans rfl, (blk_cell BK624.out 0).trans rfl, (blk_cell BK624.out 1).trans rfl, (blk_cell BK624.out 2).trans rfl, (blk_cell BK589.out 0).trans rfl, (blk_cell BK589.out 1).trans rfl, (blk_cell BK589.out 2).trans rfl⟩ (fun hHeld => ?_)
        clear hK K
        refine norm_ (a' := ?_) ?_ ?_
        rotate_left
        ·show Act.put _ (some 94) _ = _
         simp only [Act.put, List.setIfInBounds_toArray, List.set_cons_zero, List.set_cons_succ, i64_w, i32_w]
         rfl
        refine pure_ (i := 33) (N := some 95) (v := ?_) (a' := ?_) #[true, true, true, true, true, true, true, true, true, true, true, true, true, true, true, true, true, true, true, true, true, true, true, true, true, true, true, true, true, true, true, true, true, true, false, false] rfl rfl (any_of HT_.out (by kernel_rfl)) (fun _ _ _ h => h) (Or.inl ⟨by rfl, ?_⟩) ?_ ?_
        rotate_left
        ·intro w'
         go_simp
         with_reducible rfl
        rotate_left
        ·simp only [Act.put, List.setIfInBounds_toArray, List.set_cons_zero, List.set_cons_succ, i64_w, i32_w]
         rfl
        refine pure_ (i := 34) (N := some 96) (v := ?_) (a' := ?_) #[true, true, true, true, true, true, true, true, true, true, true, true, true, true, true, true, true, true, true, true, true, true, true, true, true, true, true, true, true, true, true, true, true, true, true, false] rfl rfl (any_of HT_.out (by kernel_rfl)) (fun _ _ _ h => h) (Or.inl ⟨by rfl, ?_⟩) ?_ ?_
        rotate_left
        ·intro w'
         go_simp
         with_reducible rfl
        rotate_left
        ·simp only [Act.put, List.setIfInBounds_toArray, List.set_cons_zero, List.set_cons_succ, i64_w, i32_w]
         rfl
        refine pure_ (i := 35) (N := some 2) (v := ?_) (a' := ?_) #[true, true, true, true, true, true, true, true, true, true, true, true, true, true, true, true, true, true, true, true, true, true, true, true, true, true, true, true, true, true, true, true, true, true, true, true] rfl rfl (any_of HT_.out (by kernel_rfl)) (fun _ _ _ h => h) (Or.inl ⟨by rfl, ?_⟩) ?_ ?_
        rotate_left
        ·intro w'
         go_simp
         with_reducible rfl
        rotate_left
        ·simp only [Act.put, List.setIfInBounds_toArray, List.set_cons_zero, List.set_cons_succ, i64_w, i32_w]
         rfl
        refine done_ (done_of HT_.out (by kernel_rfl)) ?_
        try go_wp2
        go_ret
        exact ⟨by first | rfl | (simp [errW_none, errW_some] <;> rfl) | (simp [*, errW_none, errW_some] <;> rfl) | exact False.elim (Bool.noConfusion ((decide_eq_true (of_eq_true (by assumption))).symm.trans (by assumption))), bl_⟩
       ·replace c20 := Bool.eq_false_iff.mpr c20
        subst c20
        rw [if_neg (show ¬ (false = true) by decide)] at H
        exact absurd ((Option.some.inj H).trans HR1.out) (by decide)
      ·rw [if_neg c18] at H
       have c18b0 : (t616 == t623) = false := by simpa using c18
       (try (have c18b1 : decide (t616 = t623) = false := by simpa using c18))
       (try (have c18b2 : (t616 == t623) = false := by simpa using c18))
       (try (have c18b3 : ¬ (t616 = t623) := by simpa using c18))
       clear c18
       exact absurd ((Option.some.inj H).trans HR1.out) (by decide)
     ·replace c17 := Bool.eq_false_iff.mpr c17
      subst c17
      rw [if_neg (show ¬ (false = true) by decide)] at H
      exact absurd ((Option.some.inj H).trans HR1.out) (by decide)
    ·rw [if_neg c15] at H
     have c15b0 : (t600 == t607) = false := by simpa using c15
     (try (have c15b1 : decide (t600 = t607) = false := by simpa using c15))
     (try (have c15b2 : (t600 == t607) = false := by simpa using c15))
     (try (have c15b3 : ¬ (t600 = t607) := by simpa using c15))
     clear c15
     exact absurd ((Option.some.inj H).trans HR1.out) (by decide)
   ·rw [if_neg c14] at H
    have c14b0 : (t591 == t593) = false := by simpa using c14
    (try (have c14b1 : decide (t591 = t593) = false := by simpa using c14))
    (try (have c14b2 : (t591 == t593) = false := by simpa using c14))
    (try (have c14b3 : ¬ (t591 = t593) := by simpa using c14))
    clear c14
    exact absurd ((Option.some.inj H).trans HR1.out) (by decide)
  ·rw [if_neg c13] at H
   have c13b0 : (t590.toList == t592.toList) = false := beq_eq_false_iff_ne.mpr c13
   have c13b1 : (t590.toList != t592.toList) = true := bne_iff_ne.mpr c13
   exact absurd ((Option.some.inj H).trans HR1.out) (by decide)

/-- THE ONE PURE STATEMENT of laws_FnCallTextsTold: yours. -/
def laws_FnCallTextsTold.Pure : Prop := ∀ (l0 : List Int), l0.length ≤ maxLen → l0.length * 1 ≤ 140737488351232 → (∀ x ∈ l0, (Lit.int .u8 x).wf = true) → ∃ k, laws_FnCallTextsTold.f k l0 = some true
theorem laws_FnCallTextsTold.walk (P : laws_FnCallTextsTold.Pure) (a0 : Option Addr) (len0 cap0 : Nat) (z0 : List Int) (w : World) (w0 : (a0 = none ∧ len0 = 0 ∧ cap0 = 0 ∧ z0 = []) ∨ ∃ x, a0 = some x ∧ len0 ≤ cap0 ∧ cap0 ≤ maxLen ∧ z0.length = cap0 ∧ (∀ i, i < z0.length → w.cell? (x.add i) = some (.int .u8 (z0.getD i 0))) ∧ ∀ n ∈ z0, (Lit.int .u8 n).wf = true) (y0 : len0 * 1 ≤ 140737488351232) :
 Calls Try.prog 5 #[.slice a0 len0 cap0] w fun e w' => e = .returned (.bool true) ∧ Below w.heap.size w w' := by
 obtain ⟨l0, rfl, hr0, hm0, hw0, hc0⟩ := ReadsInt.ofRowC w0
 obtain ⟨k, h⟩ := P l0 hm0 y0 hw0
 refine (laws_FnCallTextsTold.calls k _ _ l0 true w (Kd.C_of_reads (d := (0 : Int)) (h1 := fun _ => rfl) hr0) hc0 rfl h).mono ?_
 rintro e w' ⟨rfl, hd⟩
 exact ⟨rfl, hd⟩

end Go.Proofs.Ytmjlhikflhbdaaa.PA

namespace Go.Proofs.Ytmjlhikflhbdaaa.Kit
open Go.RowKit Go.Proofs.YtmjlhikflhbdaaaW.PrintWords Go.Proofs.YtmjlhikflhbdaaaW.PrintLast Go.Proofs.YtmjlhikflhbdaaaW.PrintMore
set_option linter.unusedVariables false
set_option linter.unusedSimpArgs false

theorem w64 {x : Int} (h0 : -9223372036854775808 ≤ x) (h1 : x ≤ 9223372036854775807) : wrap64 x = x := by unfold wrap64; omega

section
variable {α β : Type}
theorem evSucc {g : Nat → Option α} {r : α} (h : Ev (fun k => g (k + 1)) r) : Ev g r := Ev.step (fun _ => rfl) h
theorem evPos {c : Prop} [Decidable c] {g f : Nat → Option α} {r : α} (hc : c) (h : Ev g r) : Ev (fun k => if c then g k else f k) r := Ev.congr (fun k => if_pos hc) h
theorem evNeg {c : Prop} [Decidable c] {g f : Nat → Option α} {r : α} (hc : ¬ c) (h : Ev f r) : Ev (fun k => if c then g k else f k) r := Ev.congr (fun k => if_neg hc) h
theorem evIte {c : Prop} [Decidable c] {g f : Nat → Option α} {r s : α} (h : c → Ev g r) (h' : ¬ c → Ev f s) : Ev (fun k => if c then g k else f k) (if c then r else s) := by
 by_cases hc : c
 ·rw [if_pos hc]; exact evPos hc (h hc)
 ·rw [if_neg hc]; exact evNeg hc (h' hc)
theorem evSome (r : α) : Ev (fun _ => some r) r := Ev.now r
theorem evEq {g : Nat → Option α} {r s : α} (h : Ev g r) (e : r = s) : Ev g s := e ▸ h
/-- A value that needs no rounds. -/
theorem evBindS {x : Option α} {f : Nat → α → Option β} {a : α} {r : β} (h : x = some a) (k : Ev (fun n => f n a) r) : Ev (fun n => x.bind (f n)) r := by subst h; exact k
theorem evConst {x : Option α} {r : α} (h : x = some r) : Ev (fun _ => x) r := by subst h; exact Ev.now r
end

section
variable {α β : Type}
/-- A loop that counts up: from the last place back to the first. -/
theorem evUp {r : α} (n : Nat) (g : Nat → Nat → Option α) (step : ∀ i, i < n → Ev (g (i + 1)) r → Ev (g i) r) (last : Ev (g n) r) : Ev (g 0) r := by
 have key : ∀ d i, i + d = n → Ev (g i) r := by
  intro d
  induction d with
  | zero => intro i hi; rw [show i = n by omega]; exact last
  | succ d ih => intro i hi; exact step i (by omega) (ih (i + 1) (by omega))
 exact key n 0 (by omega)
theorem fillStep (f : α → β) (z : β) (l : List α) (i : Nat) (hi : i < l.length) :
 ((l.take i).map f ++ List.replicate (l.length - i) z).set i (f l[i]) = (l.take (i + 1)).map f ++ List.replicate (l.length - (i + 1)) z := by
 have h1 : ((l.take i).map f).length = i := by simp; omega
 rw [show l.length - i = (l.length - (i + 1)) + 1 by omega, List.replicate_succ, List.set_append_right _ _ (by omega), h1, Nat.sub_self, List.set_cons_zero,
  List.take_succ_eq_append_getElem hi, List.map_append, List.append_assoc]
 rfl
theorem takeSnoc (l : List α) (i : Nat) (hi : i < l.length) : l.take (i + 1) = l.take i ++ [l[i]] := List.take_succ_eq_append_getElem hi
theorem ci (i : Nat) : (i : Int) + 1 = ((i + 1 : Nat) : Int) := by omega
theorem sizeApp (a b : ByteArray) : (a ++ b).size = a.size + b.size := ByteArray.size_append
end

theorem okI64 {n : Int} (h : (Lit.int .i64 n).wf = true) : -9223372036854775808 ≤ n ∧ n ≤ 9223372036854775807 := by
 simp [Lit.wf, IntKind.min, IntKind.max, IntKind.signed, IntKind.bits] at h
 omega
end Go.Proofs.Ytmjlhikflhbdaaa.Kit

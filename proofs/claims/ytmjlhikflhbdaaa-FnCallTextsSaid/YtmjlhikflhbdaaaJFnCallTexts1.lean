/- Contracts of functions of the program and of the reference, and plain lemmas on what they compute: a part of the proof of the law FnCallTexts. No condition. -/
import Derived.Test.YtmjlhikflhbdaaaGabbbex0
import Derived.Test.YtmjlhikflhbdaaaGe172dx0
import Derived.Test.YtmjlhikflhbdaaaGd7e28x0
import Derived.Test.YtmjlhikflhbdaaaG909c1x1
import Derived.Test.YtmjlhikflhbdaaaGd7e28x1
import Derived.Test.YtmjlhikflhbdaaaV0
import Derived.Test.YtmjlhikflhbdaaaRows
import Derived.WalkKit
import Derived.ProofKit
import Derived.OpenShut
import Derived.ShutString
import Derived.ChangeOld
import Derived.Below
import Derived.SizedLaws
import Derived.Test.YtmjlhikflhbdaaaShortV
namespace Go.Proofs.Ytmjlhikflhbdaaa.PA
open Go.RowKit Go.Proofs.Ytmjlhikflhbdaaa.Short Go.Proofs.YtmjlhikflhbdaaaW.PrintWords Go.Proofs.YtmjlhikflhbdaaaW.PrintLast Go.Proofs.YtmjlhikflhbdaaaW.PrintMore
attribute [local go_sem] max2_int min2_int max_two min_two max_three min_three max_four min_four   -- for this text's walks alone
set_option linter.unusedVariables false
set_option linter.unusedSimpArgs false

/-! ### spec_DrawCall: function 21 -/
def spec_DrawCall.f (k : Nat) (l0 : List Int) : Option (Int × Int × (List (S103))) := (spec_l01New.f k l0).bind fun bt336 => ((spec_l04Call.f k bt336.1 bt336.2.1 bt336.2.2).bind fun bt340 => (some (bt340.1, bt340.2.1, bt340.2.2.1)))
theorem spec_DrawCall.mono : ∀ a0 k, LeO (spec_DrawCall.f k a0) (spec_DrawCall.f (k + 1) a0) := by
 intro a0 k
 unfold spec_DrawCall.f
 repeat' first
  | (with_reducible exact spec_l01New.mono _ _)
  | (with_reducible exact spec_l04Call.mono _ _ _ _)
  | (with_reducible exact LeO.refl _)
  | (with_reducible exact LeO.none _)
  | (with_reducible refine LeO.ite ?_ ?_)
  | (with_reducible refine LeO.bind ?_ (fun _ => ?_))
  | exact spec_l01New.mono _ _
  | exact spec_l04Call.mono _ _ _ _
  | exact LeO.none _
  | refine LeO.ite ?_ ?_
  | refine LeO.bind ?_ (fun _ => ?_)
set_option maxHeartbeats 8000000 in
set_option maxRecDepth 100000 in
theorem spec_DrawCall.calls (k : Nat) (A0 : Option Addr) (c0 : Nat) (l0 : List Int) (r1 : Int) (r2 : Int) (r3 : List (S103)) (w : World) (hr0 : Kd.C (Kd.int .u8) w A0 l0.length l0) (hc0 : l0.length ≤ c0) (h : spec_DrawCall.f k l0 = some (r1, r2, r3)) :
 Calls Try.prog 21 #[.slice A0 l0.length c0] w fun e w' => ∃ v2_ : Value, e = .returned (.agg #[.int .i64 r1, .int .i64 r2, v2_]) ∧ Kd.R k103 103 w' w.heap.size (fun _ => True) v2_ r3 ∧ Below w.heap.size w w' := by
 have hu24 := Try.underlying24
 have HR0 := Aside0.mk hr0
 have HC0 := Aside0.mk hc0
 clear hr0 hc0
 have HB := Aside0.mk (Below.refl w.heap.size w)
 have H : ((spec_l01New.f k l0).bind fun bt336 => ((spec_l04Call.f k bt336.1 bt336.2.1 bt336.2.2).bind fun bt340 => (some (bt340.1, bt340.2.1, bt340.2.2.1)))) = some (r1, r2, r3) := h
 clear h
 replace H := Option.bind_eq_some_iff.mp H
 obtain ⟨⟨t336, t337, t338⟩, A20, H⟩ := H
 try dsimp only at H
 have A2 := Aside0.mk A20
 clear A20
 replace H := Option.bind_eq_some_iff.mp H
 obtain ⟨⟨t340, t341, t342, t345, t346⟩, A30, H⟩ := H
 try dsimp only at H
 have A3 := Aside0.mk A30
 clear A30
 simp only [Option.some.injEq, Prod.mk.injEq] at H
 obtain ⟨rfl, rfl, rfl⟩ := H
 go_enter Try.func21, Try.ntmps21
 go_wp2_with (first | ((with_reducible refine gate_dst (N := 2) rfl ?_); refine box_event ?hg (N := 2) ?hd (cs := #[.int .i64 0, .int .i64 0, .slice none 0 0]) (t := 24) ?hr ?_; (case hd => rfl); (case hg => rfl); (case hr => first | (go_simp; done) | (go_simp; rfl)); intro gb335 hg w4 hbox hb; have n0_ := Aside0.mk (below_step bl_ hb); have n1_ := Aside0.mk (hbox); have n2_ := Aside0.mk ((hz_ : w.heap.size ≤ gb335)); have n3_ := Aside0.mk ((hz_ : w.heap.size ≤ gb335)); clear HB; have HB := n0_; have BK335 := n1_; have GW335 := n2_; have GE335 := n3_; clear n0_ n1_ n2_ n3_; clear hb hbox hg) | ((with_reducible refine gate_callee (f := 100) rfl ?_); refine goesL_ (some 4) rfl rfl Try.func100 (by kernel_rfl) rfl #[.slice A0 l0.length c0] rfl lm_ ?_; (with_reducible refine (spec_l01New.calls k _ _ l0 t336 t337 t338 w _ ?side1 ?side2 ?side3 A2.out).mono ?_); (case side1 => repeat (first | (with_reducible first | exact HB.out | apply below_alloc | apply pw_below_drewN | apply below_drew1 | refine below_set ?_ GE335.out) | exact HB.out)); (case side2 => exact HR0.out); (case side3 => exact HC0.out); rintro e w5 ⟨g339, rfl, hi, hb, hb2⟩; refine ⟨_, rfl, ?_⟩; have n0_ := Aside0.mk (blk_below (g := gb335) (o := .cells #[.int .i64 0, .int .i64 0, .slice none 0 0] 24 (0, 0)) (bk_ BK335.out) hb2); have n1_ := Aside0.mk (hb); have n2_ := Aside0.mk (hi); have n3_ := Aside0.mk (IsS163.ne_blk hi (blk_below (g := gb335) (o := .cells #[.int .i64 0, .int .i64 0, .slice none 0 0] 24 (0, 0)) (bk_ BK335.out) hb2) (by decide)); have n4_ := Aside0.mk (Ne.symm (IsS163.ne_blk hi (blk_below (g := gb335) (o := .cells #[.int .i64 0, .int .i64 0, .slice none 0 0] 24 (0, 0)) (bk_ BK335.out) hb2) (by decide))); clear BK335; clear HB; have BK335 := n0_; have HB := n1_; have HI339 := n2_; have NB339_335 := n3_; have NB335_339 := n4_; clear n0_ n1_ n2_ n3_ n4_; (try clear hb); (try clear hb2); (try clear hk); (try clear hi)) | ((with_reducible refine gate_callee (f := 99) rfl ?_); refine goesL_ (some 5) rfl rfl Try.func99 (by kernel_rfl) rfl #[.pointer (some ⟨g339, 0, none⟩)] rfl lm_ ?_; (with_reducible refine (spec_l04Call.calls k g339 t336 t337 t338 t340 t341 t342 t345 t346 w _ ?side1 ?side2 A3.out).mono ?_); (case side1 => exact is4_); (case side2 => exact bi4_); rintro e w6 ⟨v343, rfl, ho0, hi, hb, hk⟩; refine ⟨_, rfl, ?_⟩; have n0_ := Aside0.mk (KeepBut.blk hk (g' := gb335) (o := .cells #[.int .i64 0, .int .i64 0, .slice none 0 0] 24 (0, 0)) (bk_ BK335.out) NB335_339.out (by simp)); have n1_ := Aside0.mk (Kd.R_lower ho0 (below_size bi4_)); have n2_ := Aside0.mk (hb); have n3_ := Aside0.mk (hi); clear BK335; clear HB; clear HI339; have BK335 := n0_; have HO344 := n1_; have HB := n2_; have HI339 := n3_; clear n0_ n1_ n2_ n3_; (try clear hb); (try clear hb2); (try clear hk); (try clear hi); (try clear ho0); have hnb7 := NB335_339.out; have hnc7 := NB339_335.out; have hcz8_0 : w6.cell? ⟨gb335, 0, none⟩ = some (.int .i64 0) := (blk_cell BK335.out 0).trans rfl; have hcz8_1 : w6.cell? ⟨gb335, 1, none⟩ = some (.int .i64 0) := (blk_cell BK335.out 1).trans rfl; have hcz8_2 : w6.cell? ⟨gb335, 2, none⟩ = some (.slice none 0 0) := (blk_cell BK335.out 2).trans rfl; have hfz8_0 := blk_frozen BK335.out 0; have hfz8_1 := blk_frozen BK335.out 1; have hfz8_2 := blk_frozen BK335.out 2; obtain ⟨Ao9, co9, eo9⟩ := Kd.R_slice HO344.out; subst eo9))
 refine bodyPost_ret (results_cell_row rfl _ _ gb335 24 #[.int .i64 t340, .int .i64 t341, .slice Ao9 t342.length co9] (0, 0) _ rfl (by (with_reducible repeat (first | refine blk_drewN ?_ _ | refine blk_drew ?_ | refine blk_alloc ?_ _)); refine blk_put (cs := #[.int .i64 t340, .int .i64 t341, .slice none 0 0]) ?_ 2 _ rfl; (with_reducible repeat (first | refine blk_drewN ?_ _ | refine blk_drew ?_ | refine blk_alloc ?_ _)); refine blk_put (cs := #[.int .i64 t340, .int .i64 0, .slice none 0 0]) ?_ 1 _ rfl; (with_reducible repeat (first | refine blk_drewN ?_ _ | refine blk_drew ?_ | refine blk_alloc ?_ _)); refine blk_put (cs := #[.int .i64 0, .int .i64 0, .slice none 0 0]) ?_ 0 _ rfl; (with_reducible repeat (first | refine blk_drewN ?_ _ | refine blk_drew ?_ | refine blk_alloc ?_ _)); exact BK335.out) Try.underlying24 rfl (by kernel_rfl)) rfl ?_
 exact ⟨_, by first | rfl | (simp [errW_none, errW_some] <;> rfl) | (simp [*, errW_none, errW_some] <;> rfl) | exact False.elim (Bool.noConfusion ((decide_eq_true (of_eq_true (by assumption))).symm.trans (by assumption))), by (with_reducible repeat (first | apply Kd.R_alloc | apply Kd.R_drewN | apply Kd.R_drew)); exact Kd.R_mono (Kd.R_far (p := ⟨gb335, 2, none⟩) (Kd.R_far (p := ⟨gb335, 1, none⟩) (Kd.R_far (p := ⟨gb335, 0, none⟩) (Kd.R_types HO344.out BK335.out (by decide)) (fun _ hk => hk.2) (.int .i64 t340)) (fun _ hk => hk.2) (.int .i64 t341)) (fun _ hk => hk.2) (.slice Ao9 t342.length co9)) (fun _ hk => trivial), bi4_⟩


/-! ### laws_FnCallTexts: function 4 -/
def laws_FnCallTexts.f (k : Nat) (l0 : List Int) : Option (Bool) := (laws_big.f l0).bind fun t391 => (if t391 = true then (some true) else ((spec_DrawCall.f k l0).bind fun bt392 => ((spec_CallOk.f k bt392.1 bt392.2.1 bt392.2.2).bind fun t398 => (if t398 = true then ((impl_CallText.f k bt392.1 bt392.2.1 bt392.2.2).bind fun bt402 => ((impl_ReadCall.f k bt402.1).bind fun bt404 => ((impl_ShowCall.f k bt392.1 bt392.2.1 bt392.2.2).bind fun t411 => ((impl_ReadCallLine.f k bt392.1 t411).bind fun bt412 => (if 2 + t411.size ≤ 9223372036854775807 then (if ((⟨#[32, 32]⟩ : ByteArray) ++ t411).size + 1 ≤ 9223372036854775807 then ((impl_ReadCallLine.f k bt392.1 (((⟨#[32, 32]⟩ : ByteArray) ++ t411) ++ (⟨#[32]⟩ : ByteArray))).bind fun bt419 => (if bt402.2 = true then (if bt404.2.2.2 = true then (if bt412.2.2.2 = true then (if bt419.2.2.2 = true then ((laws_sameCall.f k bt404.1 bt404.2.1 bt404.2.2.1 bt392.1 bt392.2.1 bt392.2.2).bind fun t426 => (if t426 = true then ((laws_sameCall.f k bt412.1 bt412.2.1 bt412.2.2.1 bt392.1 bt392.2.1 bt392.2.2).bind fun t427 => (if t427 = true then ((laws_sameCall.f k bt419.1 bt419.2.1 bt419.2.2.1 bt392.1 bt392.2.1 bt392.2.2).bind fun t428 => (if t428 = true then (if (bt402.1.size : Int) = 32 then (some (decide ((t411.size : Int) > 0))) else (some false)) else (some false))) else (some false))) else (some false))) else (some false)) else (some false)) else (some false)) else (some false))) else (none)) else (none)))))) else ((impl_CallText.f k bt392.1 bt392.2.1 bt392.2.2).bind fun bt399 => (if bt399.2 = true then (some false) else ((impl_ShowCall.f k bt392.1 bt392.2.1 bt392.2.2).bind fun t401 => (some (t401.toList == ([] : List UInt8))))))))))
theorem laws_FnCallTexts.mono : ∀ a0 k, LeO (laws_FnCallTexts.f k a0) (laws_FnCallTexts.f (k + 1) a0) := by
 intro a0 k
 unfold laws_FnCallTexts.f
 repeat' first
  | (with_reducible exact impl_CallText.mono _ _ _ _)
  | (with_reducible exact impl_ReadCall.mono _ _)
  | (with_reducible exact impl_ReadCallLine.mono _ _ _)
  | (with_reducible exact impl_ShowCall.mono _ _ _ _)
  | (with_reducible exact laws_sameCall.mono _ _ _ _ _ _ _)
  | (with_reducible exact spec_CallOk.mono _ _ _ _)
  | (with_reducible exact spec_DrawCall.mono _ _)
  | (with_reducible exact LeO.refl _)
  | (with_reducible exact LeO.none _)
  | (with_reducible refine LeO.ite ?_ ?_)
  | (with_reducible refine LeO.bind ?_ (fun _ => ?_))
  | exact impl_CallText.mono _ _ _ _
  | exact impl_ReadCall.mono _ _
  | exact impl_ReadCallLine.mono _ _ _
  | exact impl_ShowCall.mono _ _ _ _
  | exact laws_sameCall.mono _ _ _ _ _ _ _
  | exact spec_CallOk.mono _ _ _ _
  | exact spec_DrawCall.mono _ _
  | exact LeO.none _
  | refine LeO.ite ?_ ?_
  | refine LeO.bind ?_ (fun _ => ?_)
set_option maxHeartbeats 8000000 in
set_option maxRecDepth 100000 in
theorem laws_FnCallTexts.calls (k : Nat) (A0 : Option Addr) (c0 : Nat) (l0 : List Int) (r : Bool) (w : World) (hr0 : Kd.C (Kd.int .u8) w A0 l0.length l0) (hc0 : l0.length ≤ c0) (hr1 : r = true) (h : laws_FnCallTexts.f k l0 = some r) :
 Calls Try.prog 4 #[.slice A0 l0.length c0] w fun e w' => e = .returned (.bool r) ∧ Below w.heap.size w w' := by
 have hu24 := Try.underlying24
 have HR0 := Aside0.mk hr0
 have HC0 := Aside0.mk hc0
 clear hr0 hc0
 have HR1 := Aside0.mk hr1
 clear hr1
 have HB := Aside0.mk (Below.refl w.heap.size w)
 have H : ((laws_big.f l0).bind fun t391 => (if t391 = true then (some true) else ((spec_DrawCall.f k l0).bind fun bt392 => ((spec_CallOk.f k bt392.1 bt392.2.1 bt392.2.2).bind fun t398 => (if t398 = true then ((impl_CallText.f k bt392.1 bt392.2.1 bt392.2.2).bind fun bt402 => ((impl_ReadCall.f k bt402.1).bind fun bt404 => ((impl_ShowCall.f k bt392.1 bt392.2.1 bt392.2.2).bind fun t411 => ((impl_ReadCallLine.f k bt392.1 t411).bind fun bt412 => (if 2 + t411.size ≤ 9223372036854775807 then (if ((⟨#[32, 32]⟩ : ByteArray) ++ t411).size + 1 ≤ 9223372036854775807 then ((impl_ReadCallLine.f k bt392.1 (((⟨#[32, 32]⟩ : ByteArray) ++ t411) ++ (⟨#[32]⟩ : ByteArray))).bind fun bt419 => (if bt402.2 = true then (if bt404.2.2.2 = true then (if bt412.2.2.2 = true then (if bt419.2.2.2 = true then ((laws_sameCall.f k bt404.1 bt404.2.1 bt404.2.2.1 bt392.1 bt392.2.1 bt392.2.2).bind fun t426 => (if t426 = true then ((laws_sameCall.f k bt412.1 bt412.2.1 bt412.2.2.1 bt392.1 bt392.2.1 bt392.2.2).bind fun t427 => (if t427 = true then ((laws_sameCall.f k bt419.1 bt419.2.1 bt419.2.2.1 bt392.1 bt392.2.1 bt392.2.2).bind fun t428 => (if t428 = true then (if (bt402.1.size : Int) = 32 then (some (decide ((t411.size : Int) > 0))) else (some false)) else (some false))) else (some false))) else (some false))) else (some false)) else (some false)) else (some false)) else (some false))) else (none)) else (none)))))) else ((impl_CallText.f k bt392.1 bt392.2.1 bt392.2.2).bind fun bt399 => (if bt399.2 = true then (some false) else ((impl_ShowCall.f k bt392.1 bt392.2.1 bt392.2.2).bind fun t401 => (some (t401.toList == ([] : List UInt8))))))))))) = some r := h
 clear h
 replace H := Option.bind_eq_some_iff.mp H
 obtain ⟨t391, A20, H⟩ := H
 try dsimp only at H
 have A2 := Aside0.mk A20
 clear A20
 by_cases c3 : t391 = true
 ·subst c3
  rw [if_pos rfl] at H
  obtain rfl := Option.some.inj H
  go_enter Try.func4, Try.ntmps4
  go_wp2_with (first | ((with_reducible refine gate_callee (f := 20) rfl ?_); refine goesL_ (some 16) rfl rfl Try.func20 (by kernel_rfl) rfl #[.slice A0 l0.length c0] rfl lm_ ?_; (with_reducible refine (laws_big.calls _ _ l0 true _ ?side1 ?side2 A2.out).mono ?_); (case side1 => repeat (first | exact HR0.out | (with_reducible refine Kd.C_alloc ?_ _) | (with_reducible refine Kd.C_drewN ?_ _) | (with_reducible refine Kd.C_drew ?_))); (case side2 => exact HC0.out); rintro e w' ⟨rfl, ⟨nd, rfl⟩⟩; refine ⟨_, rfl, ?_⟩))
  go_ret
  exact ⟨by first | rfl | (simp [errW_none, errW_some] <;> rfl) | (simp [*, errW_none, errW_some] <;> rfl) | exact False.elim (Bool.noConfusion ((decide_eq_true (of_eq_true (by assumption))).symm.trans (by assumption))), bl_⟩
 ·replace c3 := Bool.eq_false_iff.mpr c3
  subst c3
  rw [if_neg (show ¬ (false = true) by decide)] at H
  replace H := Option.bind_eq_some_iff.mp H
  obtain ⟨⟨t392, t393, t394⟩, A40, H⟩ := H
  try dsimp only at H
  have A4 := Aside0.mk A40
  clear A40
  replace H := Option.bind_eq_some_iff.mp H
  obtain ⟨t398, A50, H⟩ := H
  try dsimp only at H
  have A5 := Aside0.mk A50
  clear A50
  by_cases c6 : t398 = true
  ·subst c6
   rw [if_pos rfl] at H
   replace H := Option.bind_eq_some_iff.mp H
   obtain ⟨⟨t402, t403⟩, A70, H⟩ := H
   try dsimp only at H
   have A7 := Aside0.mk A70
   clear A70
   replace H := Option.bind_eq_some_iff.mp H
   obtain ⟨⟨t404, t405, t406, t409⟩, A80, H⟩ := H
   try dsimp only at H
   have A8 := Aside0.mk A80
   clear A80
   replace H := Option.bind_eq_some_iff.mp H
   obtain ⟨t411, A90, H⟩ := H
   try dsimp only at H
   have A9 := Aside0.mk A90
   clear A90
   replace H := Option.bind_eq_some_iff.mp H
   obtain ⟨⟨t412, t413, t414, t417⟩, A100, H⟩ := H
   try dsimp only at H
   have A10 := Aside0.mk A100
   clear A100
   by_cases c11 : 2 + t411.size ≤ 9223372036854775807
   ·rw [if_pos c11] at H
    have c11b0 := eq_true c11
    have c11b1 : decide (2 + t411.size ≤ 9223372036854775807) = true := decide_eq_true c11
    try have c11b2 : (9223372036854775807 < 2 + t411.size) = False := eq_false (Nat.not_lt.2 c11)
    by_cases c12 : ((⟨#[32, 32]⟩ : ByteArray) ++ t411).size + 1 ≤ 9223372036854775807
    ·rw [if_pos c12] at H
     have c12b0 := eq_true c12
     have c12b1 : decide (((⟨#[32, 32]⟩ : ByteArray) ++ t411).size + 1 ≤ 9223372036854775807) = true := decide_eq_true c12
     try have c12b2 : (9223372036854775807 < ((⟨#[32, 32]⟩ : ByteArray) ++ t411).size + 1) = False := eq_false (Nat.not_lt.2 c12)
     try have c12b3 : (9223372036854775807 < 2 + t411.size + 1) = False := eq_false (by have h_ := c12; (repeat rw [ByteArray.size_append] at h_); exact Nat.not_lt.2 h_)
     replace H := Option.bind_eq_some_iff.mp H
     obtain ⟨⟨t419, t420, t421, t424⟩, A130, H⟩ := H
     try dsimp only at H
     have A13 := Aside0.mk A130
     clear A130
     by_cases c14 : t403 = true
     ·subst c14
      rw [if_pos rfl] at H
      by_cases c15 : t409 = true
      ·subst c15
       rw [if_pos rfl] at H
       by_cases c16 : t417 = true
       ·subst c16
        rw [if_pos rfl] at H
        by_cases c17 : t424 = true
        ·subst c17
         rw [if_pos rfl] at H
         replace H := Option.bind_eq_some_iff.mp H
         obtain ⟨t426, A180, H⟩ := H
         try dsimp only at H
         have A18 := Aside0.mk A180
         clear A180
         by_cases c19 : t426 = true
         ·subst c19
          rw [if_pos rfl] at H
          replace H := Option.bind_eq_some_iff.mp H
          obtain ⟨t427, A200, H⟩ := H
          try dsimp only at H
          have A20 := Aside0.mk A200
          clear A200
          by_cases c21 : t427 = true
          ·subst c21
           rw [if_pos rfl] at H
           replace H := Option.bind_eq_some_iff.mp H
           obtain ⟨t428, A220, H⟩ := H
           try dsimp only at H
           have A22 := Aside0.mk A220
           clear A220
           by_cases c23 : t428 = true
           ·subst c23
            rw [if_pos rfl] at H
            by_cases c24 : (t402.size : Int) = 32
            ·rw [if_pos c24] at H
             have c24b0 : ((t402.size : Int) == 32) = true := beq_iff_eq.mpr c24
             have c24b1 : ((t402.size : Int) != 32) = false := bne_eq_false_iff_eq.mpr c24
             clear c24
             obtain rfl := Option.some.inj H
             go_enter Try.func4, Try.ntmps4
             go_wp2_with (first | ((with_reducible refine gate_callee (f := 20) rfl ?_); refine goesL_ (some 16) rfl rfl Try.func20 (by kernel_rfl) rfl #[.slice A0 l0.length c0] rfl lm_ ?_; (with_reducible refine (laws_big.calls _ _ l0 false _ ?side1 ?side2 A2.out).mono ?_); (case side1 => repeat (first | exact HR0.out | (with_reducible refine Kd.C_alloc ?_ _) | (with_reducible refine Kd.C_drewN ?_ _) | (with_reducible refine Kd.C_drew ?_))); (case side2 => exact HC0.out); rintro e w' ⟨rfl, ⟨nd, rfl⟩⟩; refine ⟨_, rfl, ?_⟩) | ((with_reducible refine gate_callee (f := 21) rfl ?_); refine goesL_ (some 18) rfl rfl Try.func21 (by kernel_rfl) rfl #[.slice A0 l0.length c0] rfl lm_ ?_; (with_reducible refine (spec_DrawCall.calls k _ _ l0 t392 t393 t394 _ ?side1 ?side2 A4.out).mono ?_); (case side1 => repeat (first | exact HR0.out | (with_reducible refine Kd.C_alloc ?_ _) | (with_reducible refine Kd.C_drewN ?_ _) | (with_reducible refine Kd.C_drew ?_))); (case side2 => exact HC0.out); rintro e w25 ⟨v395, rfl, ho0, hb⟩; refine ⟨_, rfl, ?_⟩; have n0_ := Aside0.mk (Kd.R_lower ho0 (below_size bl_)); have n1_ := Aside0.mk (below_step bl_ hb); clear HB; have HO396 := n0_; have HB := n1_; clear n0_ n1_; (try clear hb); (try clear hb2); (try clear hk); (try clear hi); (try clear ho0)) | ((with_reducible refine gate_dst (N := 3) rfl ?_); (try (refine gate_guard (by rfl) ?_; dsimp only)); refine box_event ?hg (N := 3) ?hd (cs := #[.int .i64 0, .int .i64 0, .slice none 0 0]) (t := 24) ?hr ?_; (case hd => rfl); (case hg => rfl); (case hr => first | (go_simp; done) | (go_simp; rfl)); intro gb397 hg w26 hbox hb; have n0_ := Aside0.mk (Kd.R_below (ra_ HO396.out) hb); have n1_ := Aside0.mk (below_step bl_ hb); have n2_ := Aside0.mk (hbox); have n3_ := Aside0.mk ((hz_ : w.heap.size ≤ gb397)); have n4_ := Aside0.mk ((hz_ : w.heap.size ≤ gb397)); clear HO396; clear HB; have HO396 := n0_; have HB := n1_; have BK397 := n2_; have GW397 := n3_; have GE397 := n4_; clear n0_ n1_ n2_ n3_ n4_; clear hb hbox hg; have hcz27_0 : w26.cell? ⟨gb397, 0, none⟩ = some (.int .i64 0) := (blk_cell BK397.out 0).trans rfl; have hcz27_1 : w26.cell? ⟨gb397, 1, none⟩ = some (.int .i64 0) := (blk_cell BK397.out 1).trans rfl; have hcz27_2 : w26.cell? ⟨gb397, 2, none⟩ = some (.slice none 0 0) := (blk_cell BK397.out 2).trans rfl; have hfz27_0 := blk_frozen BK397.out 0; have hfz27_1 := blk_frozen BK397.out 1; have hfz27_2 := blk_frozen BK397.out 2; obtain ⟨Ao28, co28, eo28⟩ := Kd.R_slice HO396.out; subst eo28) | ((with_reducible refine gate_callee (f := 22) rfl ?_); refine goesL_ (some 20) rfl rfl Try.func22 (by kernel_rfl) rfl #[.agg #[.int .i64 t392, .int .i64 t393, .slice Ao28 t394.length co28]] rfl lm_ ?_; (with_reducible refine (spec_CallOk.calls k t392 t393 _ _ t394 true _ ?side1 ?side2 A5.out).mono ?_); (case side1 => refine (Kd.R_reads' (e := 103) (base := w.heap.size) (ok := fun k_ => True) (n := t394.length) (c := co28) ?_).2.2; exact (by (with_reducible repeat (first | apply Kd.R_alloc | apply Kd.R_drewN | apply Kd.R_drew)); exact (Kd.R_mono (Kd.R_far (p := ⟨gb397, 2, none⟩) (Kd.R_far (p := ⟨gb397, 1, none⟩) (Kd.R_far (p := ⟨gb397, 0, none⟩) (Kd.R_types HO396.out BK397.out (by decide)) (fun _ hk => hk.2) (.int .i64 t392)) (fun _ hk => hk.2) (.int .i64 t393)) (fun _ hk => hk.2) (.slice Ao28 t394.length co28)) (fun _ h_ => h_.1)))); (case side2 => exact (Kd.R_reads' HO396.out).2.1); rintro e w29 ⟨rfl, hb⟩; refine ⟨_, rfl, ?_⟩; have n0_ := Aside0.mk (Kd.R_below (by (with_reducible repeat (first | apply Kd.R_alloc | apply Kd.R_drewN | apply Kd.R_drew)); exact (Kd.R_mono (Kd.R_far (p := ⟨gb397, 2, none⟩) (Kd.R_far (p := ⟨gb397, 1, none⟩) (Kd.R_far (p := ⟨gb397, 0, none⟩) (Kd.R_types HO396.out BK397.out (by decide)) (fun _ hk => hk.2) (.int .i64 t392)) (fun _ hk => hk.2) (.int .i64 t393)) (fun _ hk => hk.2) (.slice Ao28 t394.length co28)) (fun _ h_ => h_.1))) hb); have n1_ := Aside0.mk (blk_below (g := gb397) (o := .cells #[.int .i64 t392, .int .i64 t393, .slice Ao28 t394.length co28] 24 (0, 0)) (by (with_reducible repeat (first | refine blk_drewN ?_ _ | refine blk_drew ?_ | refine blk_alloc ?_ _)); refine blk_put (cs := #[.int .i64 t392, .int .i64 t393, .slice none 0 0]) ?_ 2 _ rfl; (with_reducible repeat (first | refine blk_drewN ?_ _ | refine blk_drew ?_ | refine blk_alloc ?_ _)); refine blk_put (cs := #[.int .i64 t392, .int .i64 0, .slice none 0 0]) ?_ 1 _ rfl; (with_reducible repeat (first | refine blk_drewN ?_ _ | refine blk_drew ?_ | refine blk_alloc ?_ _)); refine blk_put (cs := #[.int .i64 0, .int .i64 0, .slice none 0 0]) ?_ 0 _ rfl; (with_reducible repeat (first | refine blk_drewN ?_ _ | refine blk_drew ?_ | refine blk_alloc ?_ _)); exact BK397.out) hb); have n2_ := Aside0.mk (below_step bl_ hb); clear HO396; clear BK397; clear HB; have HO396 := n0_; have BK397 := n1_; have HB := n2_; clear n0_ n1_ n2_; (try clear hb); (try clear hb2); (try clear hk); (try clear hi); have hcz30_0 : w29.cell? ⟨gb397, 0, none⟩ = some (.int .i64 t392) := (blk_cell BK397.out 0).trans rfl; have hcz30_1 : w29.cell? ⟨gb397, 1, none⟩ = some (.int .i64 t393) := (blk_cell BK397.out 1).trans rfl; have hcz30_2 : w29.cell? ⟨gb397, 2, none⟩ = some (.slice Ao28 t394.length co28) := (blk_cell BK397.out 2).trans rfl; have hfz30_0 := blk_frozen BK397.out 0; have hfz30_1 := blk_frozen BK397.out 1; have hfz30_2 := blk_frozen BK397.out 2) | ((with_reducible refine gate_callee (f := 23) rfl ?_); refine goesL_ (some 36) rfl rfl Try.func23 (by kernel_rfl) rfl #[.agg #[.int .i64 t392, .int .i64 t393, .slice Ao28 t394.length co28]] rfl lm_ ?_; (with_reducible refine (impl_CallText.calls k t392 t393 _ _ t394 t402 true _ ?side1 ?side2 A7.out).mono ?_); (case side1 => repeat (first | exact (Kd.R_reads' HO396.out).2.2 | (with_reducible refine Kd.C_alloc ?_ _) | (with_reducible refine Kd.C_drewN ?_ _) | (with_reducible refine Kd.C_drew ?_))); (case side2 => exact (Kd.R_reads' HO396.out).2.1); rintro e w31 ⟨rfl, hb⟩; refine ⟨_, rfl, ?_⟩; have n0_ := Aside0.mk (Kd.R_below (ra_ HO396.out) hb); have n1_ := Aside0.mk (blk_below (g := gb397) (o := .cells #[.int .i64 t392, .int .i64 t393, .slice Ao28 t394.length co28] 24 (0, 0)) (bk_ BK397.out) hb); have n2_ := Aside0.mk (below_step bl_ hb); clear HO396; clear BK397; clear HB; have HO396 := n0_; have BK397 := n1_; have HB := n2_; clear n0_ n1_ n2_; (try clear hb); (try clear hb2); (try clear hk); (try clear hi)) | ((with_reducible refine gate_callee (f := 25) rfl ?_); refine goesL_ (some 41) rfl rfl Try.func25 (by kernel_rfl) rfl #[.string t402] rfl lm_ ?_; (with_reducible refine (impl_ReadCall.calls k t402 t404 t405 t406 true _ A8.out).mono ?_); rintro e w32 ⟨v407, rfl, ho0, hb⟩; refine ⟨_, rfl, ?_⟩; have n0_ := Aside0.mk (Kd.R_elder' (ra_ HO396.out) (Kd.R_base ho0) hb); have n1_ := Aside0.mk (Kd.R_lower (Kd.R_new' ho0 (Kd.R_lt (ra_ HO396.out))) (below_size bl_)); have n2_ := Aside0.mk (blk_below (g := gb397) (o := .cells #[.int .i64 t392, .int .i64 t393, .slice Ao28 t394.length co28] 24 (0, 0)) (bk_ BK397.out) hb); have n3_ := Aside0.mk (below_step bl_ hb); clear HO396; clear BK397; clear HB; have HO396 := n0_; have HO408 := n1_; have BK397 := n2_; have HB := n3_; clear n0_ n1_ n2_ n3_; (try clear hb); (try clear hb2); (try clear hk); (try clear hi); (try clear ho0)) | ((with_reducible refine gate_dst (N := 8) rfl ?_); (try (refine gate_guard (by rfl) ?_; dsimp only)); refine box_event ?hg (N := 8) ?hd (cs := #[.int .i64 0, .int .i64 0, .slice none 0 0]) (t := 24) ?hr ?_; (case hd => rfl); (case hg => rfl); (case hr => first | (go_simp; done) | (go_simp; rfl)); intro gb410 hg w33 hbox hb; have n0_ := Aside0.mk (Kd.R_below (ra_ HO396.out) hb); have n1_ := Aside0.mk (Kd.R_below (ra_ HO408.out) hb); have n2_ := Aside0.mk (blk_below (g := gb397) (o := .cells #[.int .i64 t392, .int .i64 t393, .slice Ao28 t394.length co28] 24 (0, 0)) (bk_ BK397.out) hb); have n3_ := Aside0.mk (below_step bl_ hb); have n4_ := Aside0.mk (hbox); have n5_ := Aside0.mk ((hz_ : w.heap.size ≤ gb410)); have n6_ := Aside0.mk ((hz_ : w.heap.size ≤ gb410)); have n7_ := Aside0.mk ((by rw [hg]; exact Nat.ne_of_lt (blk_lt (g := gb397) (o := .cells #[.int .i64 t392, .int .i64 t393, .slice Ao28 t394.length co28] 24 (0, 0)) (bk_ BK397.out)) : gb397 ≠ gb410)); have n8_ := Aside0.mk ((by rw [hg]; exact Nat.ne_of_gt (blk_lt (g := gb397) (o := .cells #[.int .i64 t392, .int .i64 t393, .slice Ao28 t394.length co28] 24 (0, 0)) (bk_ BK397.out)) : gb410 ≠ gb397)); clear HO396; clear HO408; clear BK397; clear HB; have HO396 := n0_; have HO408 := n1_; have BK397 := n2_; have HB := n3_; have BK410 := n4_; have GW410 := n5_; have GE410 := n6_; have NB397_410 := n7_; have NB410_397 := n8_; clear n0_ n1_ n2_ n3_ n4_ n5_ n6_ n7_ n8_; clear hb hbox hg; have hnb34 := NB410_397.out; have hnc34 := NB397_410.out; have hcz35_0 : w33.cell? ⟨gb410, 0, none⟩ = some (.int .i64 0) := (blk_cell BK410.out 0).trans rfl; have hcz35_1 : w33.cell? ⟨gb410, 1, none⟩ = some (.int .i64 0) := (blk_cell BK410.out 1).trans rfl; have hcz35_2 : w33.cell? ⟨gb410, 2, none⟩ = some (.slice none 0 0) := (blk_cell BK410.out 2).trans rfl; have hfz35_0 := blk_frozen BK410.out 0; have hfz35_1 := blk_frozen BK410.out 1; have hfz35_2 := blk_frozen BK410.out 2; obtain ⟨Ao36, co36, eo36⟩ := Kd.R_slice HO408.out; subst eo36; have hcz37_0 : w33.cell? ⟨gb397, 0, none⟩ = some (.int .i64 t392) := (blk_cell BK397.out 0).trans rfl; have hcz37_1 : w33.cell? ⟨gb397, 1, none⟩ = some (.int .i64 t393) := (blk_cell BK397.out 1).trans rfl; have hcz37_2 : w33.cell? ⟨gb397, 2, none⟩ = some (.slice Ao28 t394.length co28) := (blk_cell BK397.out 2).trans rfl; have hfz37_0 := blk_frozen BK397.out 0; have hfz37_1 := blk_frozen BK397.out 1; have hfz37_2 := blk_frozen BK397.out 2) | ((with_reducible refine gate_callee (f := 24) rfl ?_); refine goesL_ (some 45) rfl rfl Try.func24 (by kernel_rfl) rfl #[.agg #[.int .i64 t392, .int .i64 t393, .slice Ao28 t394.length co28]] rfl lm_ ?_; (with_reducible refine (impl_ShowCall.calls k t392 t393 _ _ t394 t411 _ ?side1 ?side2 A9.out).mono ?_); (case side1 => refine (Kd.R_reads' (e := 103) (base := w.heap.size) (ok := fun k_ => (True ∧ some k_ ≠ (.slice Ao36 t406.length co36 : Value).ownBlock)) (n := t394.length) (c := co28) ?_).2.2; exact (by (with_reducible repeat (first | apply Kd.R_alloc | apply Kd.R_drewN | apply Kd.R_drew)); exact (Kd.R_mono (Kd.R_far (p := ⟨gb410, 2, none⟩) (Kd.R_far (p := ⟨gb410, 1, none⟩) (Kd.R_far (p := ⟨gb410, 0, none⟩) (Kd.R_types HO396.out BK410.out (by decide)) (fun _ hk => hk.2) (.int .i64 t404)) (fun _ hk => hk.2) (.int .i64 t405)) (fun _ hk => hk.2) (.slice Ao36 t406.length co36)) (fun _ h_ => h_.1)))); (case side2 => exact (Kd.R_reads' HO396.out).2.1); rintro e w38 ⟨rfl, hb⟩; refine ⟨_, rfl, ?_⟩; have n0_ := Aside0.mk (Kd.R_below (by (with_reducible repeat (first | apply Kd.R_alloc | apply Kd.R_drewN | apply Kd.R_drew)); exact (Kd.R_mono (Kd.R_far (p := ⟨gb410, 2, none⟩) (Kd.R_far (p := ⟨gb410, 1, none⟩) (Kd.R_far (p := ⟨gb410, 0, none⟩) (Kd.R_types HO396.out BK410.out (by decide)) (fun _ hk => hk.2) (.int .i64 t404)) (fun _ hk => hk.2) (.int .i64 t405)) (fun _ hk => hk.2) (.slice Ao36 t406.length co36)) (fun _ h_ => h_.1))) hb); have n1_ := Aside0.mk (Kd.R_below (by (with_reducible repeat (first | apply Kd.R_alloc | apply Kd.R_drewN | apply Kd.R_drew)); exact (Kd.R_mono (Kd.R_far (p := ⟨gb410, 2, none⟩) (Kd.R_far (p := ⟨gb410, 1, none⟩) (Kd.R_far (p := ⟨gb410, 0, none⟩) (Kd.R_types HO408.out BK410.out (by decide)) (fun _ hk => hk.2) (.int .i64 t404)) (fun _ hk => hk.2) (.int .i64 t405)) (fun _ hk => hk.2) (.slice Ao36 t406.length co36)) (fun _ h_ => h_.1))) hb); have n2_ := Aside0.mk (blk_below (g := gb397) (o := .cells #[.int .i64 t392, .int .i64 t393, .slice Ao28 t394.length co28] 24 (0, 0)) (by (with_reducible repeat (first | refine blk_drewN ?_ _ | refine blk_drew ?_ | refine blk_alloc ?_ _)); refine blk_far ?_ NB397_410.out _; (with_reducible repeat (first | refine blk_drewN ?_ _ | refine blk_drew ?_ | refine blk_alloc ?_ _)); refine blk_far ?_ NB397_410.out _; (with_reducible repeat (first | refine blk_drewN ?_ _ | refine blk_drew ?_ | refine blk_alloc ?_ _)); refine blk_far ?_ NB397_410.out _; (with_reducible repeat (first | refine blk_drewN ?_ _ | refine blk_drew ?_ | refine blk_alloc ?_ _)); exact BK397.out) hb); have n3_ := Aside0.mk (blk_below (g := gb410) (o := .cells #[.int .i64 t404, .int .i64 t405, .slice Ao36 t406.length co36] 24 (0, 0)) (by (with_reducible repeat (first | refine blk_drewN ?_ _ | refine blk_drew ?_ | refine blk_alloc ?_ _)); refine blk_put (cs := #[.int .i64 t404, .int .i64 t405, .slice none 0 0]) ?_ 2 _ rfl; (with_reducible repeat (first | refine blk_drewN ?_ _ | refine blk_drew ?_ | refine blk_alloc ?_ _)); refine blk_put (cs := #[.int .i64 t404, .int .i64 0, .slice none 0 0]) ?_ 1 _ rfl; (with_reducible repeat (first | refine blk_drewN ?_ _ | refine blk_drew ?_ | refine blk_alloc ?_ _)); refine blk_put (cs := #[.int .i64 0, .int .i64 0, .slice none 0 0]) ?_ 0 _ rfl; (with_reducible repeat (first | refine blk_drewN ?_ _ | refine blk_drew ?_ | refine blk_alloc ?_ _)); exact BK410.out) hb); have n4_ := Aside0.mk (below_step bl_ hb); clear HO396; clear HO408; clear BK397; clear BK410; clear HB; have HO396 := n0_; have HO408 := n1_; have BK397 := n2_; have BK410 := n3_; have HB := n4_; clear n0_ n1_ n2_ n3_ n4_; (try clear hb); (try clear hb2); (try clear hk); (try clear hi); have hcz39_0 : w38.cell? ⟨gb397, 0, none⟩ = some (.int .i64 t392) := (blk_cell BK397.out 0).trans rfl; have hcz39_1 : w38.cell? ⟨gb397, 1, none⟩ = some (.int .i64 t393) := (blk_cell BK397.out 1).trans rfl; have hcz39_2 : w38.cell? ⟨gb397, 2, none⟩ = some (.slice Ao28 t394.length co28) := (blk_cell BK397.out 2).trans rfl; have hfz39_0 := blk_frozen BK397.out 0; have hfz39_1 := blk_frozen BK397.out 1; have hfz39_2 := blk_frozen BK397.out 2) | ((with_reducible refine gate_callee (f := 16) rfl ?_); refine goesL_ (some 50) rfl rfl Try.func16 (by kernel_rfl) rfl #[.int .i64 t392, .string t411] rfl lm_ ?_; (with_reducible refine (impl_ReadCallLine.calls k t392 t411 t412 t413 t414 true _ A10.out).mono ?_); rintro e w40 ⟨v415, rfl, ho0, hb⟩; refine ⟨_, rfl, ?_⟩; have n0_ := Aside0.mk (Kd.R_elder' (ra_ HO396.out) (Kd.R_base ho0) hb); have n1_ := Aside0.mk (Kd.R_elder' (ra_ HO408.out) (Kd.R_base ho0) hb); have n2_ := Aside0.mk (Kd.R_lower (Kd.R_new' (Kd.R_new' ho0 (Kd.R_lt (ra_ HO396.out))) (Kd.R_lt (ra_ HO408.out))) (below_size bl_)); have n3_ := Aside0.mk (blk_below (g := gb397) (o := .cells #[.int .i64 t392, .int .i64 t393, .slice Ao28 t394.length co28] 24 (0, 0)) (bk_ BK397.out) hb); have n4_ := Aside0.mk (blk_below (g := gb410) (o := .cells #[.int .i64 t404, .int .i64 t405, .slice Ao36 t406.length co36] 24 (0, 0)) (bk_ BK410.out) hb); have n5_ := Aside0.mk (below_step bl_ hb); clear HO396; clear HO408; clear BK397; clear BK410; clear HB; have HO396 := n0_; have HO408 := n1_; have HO416 := n2_; have BK397 := n3_; have BK410 := n4_; have HB := n5_; clear n0_ n1_ n2_ n3_ n4_ n5_; (try clear hb); (try clear hb2); (try clear hk); (try clear hi); (try clear ho0)) | ((with_reducible refine gate_dst (N := 11) rfl ?_); (try (refine gate_guard (by rfl) ?_; dsimp only)); refine box_event ?hg (N := 11) ?hd (cs := #[.int .i64 0, .int .i64 0, .slice none 0 0]) (t := 24) ?hr ?_; (case hd => rfl); (case hg => rfl); (case hr => first | (go_simp; done) | (go_simp; rfl)); intro gb418 hg w41 hbox hb; have n0_ := Aside0.mk (Kd.R_below (ra_ HO396.out) hb); have n1_ := Aside0.mk (Kd.R_below (ra_ HO408.out) hb); have n2_ := Aside0.mk (Kd.R_below (ra_ HO416.out) hb); have n3_ := Aside0.mk (blk_below (g := gb397) (o := .cells #[.int .i64 t392, .int .i64 t393, .slice Ao28 t394.length co28] 24 (0, 0)) (bk_ BK397.out) hb); have n4_ := Aside0.mk (blk_below (g := gb410) (o := .cells #[.int .i64 t404, .int .i64 t405, .slice Ao36 t406.length co36] 24 (0, 0)) (bk_ BK410.out) hb); have n5_ := Aside0.mk (below_step bl_ hb); have n6_ := Aside0.mk (hbox); have n7_ := Aside0.mk ((hz_ : w.heap.size ≤ gb418)); have n8_ := Aside0.mk ((hz_ : w.heap.size ≤ gb418)); have n9_ := Aside0.mk ((by rw [hg]; exact Nat.ne_of_lt (blk_lt (g := gb397) (o := .cells #[.int .i64 t392, .int .i64 t393, .slice Ao28 t394.length co28] 24 (0, 0)) (bk_ BK397.out)) : gb397 ≠ gb418)); have n10_ := Aside0.mk ((by rw [hg]; exact Nat.ne_of_gt (blk_lt (g := gb397) (o := .cells #[.int .i64 t392, .int .i64 t393, .slice Ao28 t394.length co28] 24 (0, 0)) (bk_ BK397.out)) : gb418 ≠ gb397)); have n11_ := Aside0.mk ((by rw [hg]; exact Nat.ne_of_lt (blk_lt (g := gb410) (o := .cells #[.int .i64 t404, .int .i64 t405, .slice Ao36 t406.length co36] 24 (0, 0)) (bk_ BK410.out)) : gb410 ≠ gb418)); have n12_ := Aside0.mk ((by rw [hg]; exact Nat.ne_of_gt (blk_lt (g := gb410) (o := .cells #[.int .i64 t404, .int .i64 t405, .slice Ao36 t406.length co36] 24 (0, 0)) (bk_ BK410.out)) : gb418 ≠ gb410)); clear HO396; clear HO408; clear HO416; clear BK397; clear BK410; clear HB; have HO396 := n0_; have HO408 := n1_; have HO416 := n2_; have BK397 := n3_; have BK410 := n4_; have HB := n5_; have BK418 := n6_; have GW418 := n7_; have GE418 := n8_; have NB397_418 := n9_; have NB418_397 := n10_; have NB410_418 := n11_; have NB418_410 := n12_; clear n0_ n1_ n2_ n3_ n4_ n5_ n6_ n7_ n8_ n9_ n10_ n11_ n12_; clear hb hbox hg; have hnb42 := NB418_397.out; have hnc42 := NB397_418.out; have hnb43 := NB418_410.out; have hnc43 := NB410_418.out; have hcz44_0 : w41.cell? ⟨gb418, 0, none⟩ = some (.int .i64 0) := (blk_cell BK418.out 0).trans rfl; have hcz44_1 : w41.cell? ⟨gb418, 1, none⟩ = some (.int .i64 0) := (blk_cell BK418.out 1).trans rfl; have hcz44_2 : w41.cell? ⟨gb418, 2, none⟩ = some (.slice none 0 0) := (blk_cell BK418.out 2).trans rfl; have hfz44_0 := blk_frozen BK418.out 0; have hfz44_1 := blk_frozen BK418.out 1; have hfz44_2 := blk_frozen BK418.out 2; obtain ⟨Ao45, co45, eo45⟩ := Kd.R_slice HO416.out; subst eo45; have hcz46_0 : w41.cell? ⟨gb397, 0, none⟩ = some (.int .i64 t392) := (blk_cell BK397.out 0).trans rfl; have hcz46_1 : w41.cell? ⟨gb397, 1, none⟩ = some (.int .i64 t393) := (blk_cell BK397.out 1).trans rfl; have hcz46_2 : w41.cell? ⟨gb397, 2, none⟩ = some (.slice Ao28 t394.length co28) := (blk_cell BK397.out 2).trans rfl; have hfz46_0 := blk_frozen BK397.out 0; have hfz46_1 := blk_frozen BK397.out 1; have hfz46_2 := blk_frozen BK397.out 2) | ((with_reducible refine gate_callee (f := 16) rfl ?_); refine goesL_ (some 59) rfl rfl Try.func16 (by kernel_rfl) rfl #[.int .i64 t392, .string (((⟨#[32, 32]⟩ : ByteArray) ++ t411) ++ (⟨#[32]⟩ : ByteArray))] rfl lm_ ?_; (with_reducible refine (impl_ReadCallLine.calls k t392 (((⟨#[32, 32]⟩ : ByteArray) ++ t411) ++ (⟨#[32]⟩ : ByteArray)) t419 t420 t421 true _ A13.out).mono ?_); rintro e w47 ⟨v422, rfl, ho0, hb⟩; refine ⟨_, rfl, ?_⟩; have n0_ := Aside0.mk (Kd.R_elder' (by (with_reducible repeat (first | apply Kd.R_alloc | apply Kd.R_drewN | apply Kd.R_drew)); exact (Kd.R_mono (Kd.R_far (p := ⟨gb418, 2, none⟩) (Kd.R_far (p := ⟨gb418, 1, none⟩) (Kd.R_far (p := ⟨gb418, 0, none⟩) (Kd.R_types HO396.out BK418.out (by decide)) (fun _ hk => hk.2) (.int .i64 t412)) (fun _ hk => hk.2) (.int .i64 t413)) (fun _ hk => hk.2) (.slice Ao45 t414.length co45)) (fun _ h_ => h_.1))) (Kd.R_base ho0) hb); have n1_ := Aside0.mk (Kd.R_elder' (by (with_reducible repeat (first | apply Kd.R_alloc | apply Kd.R_drewN | apply Kd.R_drew)); exact (Kd.R_mono (Kd.R_far (p := ⟨gb418, 2, none⟩) (Kd.R_far (p := ⟨gb418, 1, none⟩) (Kd.R_far (p := ⟨gb418, 0, none⟩) (Kd.R_types HO408.out BK418.out (by decide)) (fun _ hk => hk.2) (.int .i64 t412)) (fun _ hk => hk.2) (.int .i64 t413)) (fun _ hk => hk.2) (.slice Ao45 t414.length co45)) (fun _ h_ => h_.1))) (Kd.R_base ho0) hb); have n2_ := Aside0.mk (Kd.R_elder' (by (with_reducible repeat (first | apply Kd.R_alloc | apply Kd.R_drewN | apply Kd.R_drew)); exact (Kd.R_mono (Kd.R_far (p := ⟨gb418, 2, none⟩) (Kd.R_far (p := ⟨gb418, 1, none⟩) (Kd.R_far (p := ⟨gb418, 0, none⟩) (Kd.R_types HO416.out BK418.out (by decide)) (fun _ hk => hk.2) (.int .i64 t412)) (fun _ hk => hk.2) (.int .i64 t413)) (fun _ hk => hk.2) (.slice Ao45 t414.length co45)) (fun _ h_ => h_.1))) (Kd.R_base ho0) hb); have n3_ := Aside0.mk (Kd.R_lower (Kd.R_new' (Kd.R_new' (Kd.R_new' ho0 (Kd.R_lt (by (with_reducible repeat (first | apply Kd.R_alloc | apply Kd.R_drewN | apply Kd.R_drew)); exact (Kd.R_mono (Kd.R_far (p := ⟨gb418, 2, none⟩) (Kd.R_far (p := ⟨gb418, 1, none⟩) (Kd.R_far (p := ⟨gb418, 0, none⟩) (Kd.R_types HO396.out BK418.out (by decide)) (fun _ hk => hk.2) (.int .i64 t412)) (fun _ hk => hk.2) (.int .i64 t413)) (fun _ hk => hk.2) (.slice Ao45 t414.length co45)) (fun _ h_ => h_.1))))) (Kd.R_lt (by (with_reducible repeat (first | apply Kd.R_alloc | apply Kd.R_drewN | apply Kd.R_drew)); exact (Kd.R_mono (Kd.R_far (p := ⟨gb418, 2, none⟩) (Kd.R_far (p := ⟨gb418, 1, none⟩) (Kd.R_far (p := ⟨gb418, 0, none⟩) (Kd.R_types HO408.out BK418.out (by decide)) (fun _ hk => hk.2) (.int .i64 t412)) (fun _ hk => hk.2) (.int .i64 t413)) (fun _ hk => hk.2) (.slice Ao45 t414.length co45)) (fun _ h_ => h_.1))))) (Kd.R_lt (by (with_reducible repeat (first | apply Kd.R_alloc | apply Kd.R_drewN | apply Kd.R_drew)); exact (Kd.R_mono (Kd.R_far (p := ⟨gb418, 2, none⟩) (Kd.R_far (p := ⟨gb418, 1, none⟩) (Kd.R_far (p := ⟨gb418, 0, none⟩) (Kd.R_types HO416.out BK418.out (by decide)) (fun _ hk => hk.2) (.int .i64 t412)) (fun _ hk => hk.2) (.int .i64 t413)) (fun _ hk => hk.2) (.slice Ao45 t414.length co45)) (fun _ h_ => h_.1))))) (below_size bl_)); have n4_ := Aside0.mk (blk_below (g := gb397) (o := .cells #[.int .i64 t392, .int .i64 t393, .slice Ao28 t394.length co28] 24 (0, 0)) (by (with_reducible repeat (first | refine blk_drewN ?_ _ | refine blk_drew ?_ | refine blk_alloc ?_ _)); refine blk_far ?_ NB397_418.out _; (with_reducible repeat (first | refine blk_drewN ?_ _ | refine blk_drew ?_ | refine blk_alloc ?_ _)); refine blk_far ?_ NB397_418.out _; (with_reducible repeat (first | refine blk_drewN ?_ _ | refine blk_drew ?_ | refine blk_alloc ?_ _)); refine blk_far ?_ NB397_418.out _; (with_reducible repeat (first | refine blk_drewN ?_ _ | refine blk_drew ?_ | refine blk_alloc ?_ _)); exact BK397.out) hb); have n5_ := Aside0.mk (blk_below (g := gb410) (o := .cells #[.int .i64 t404, .int .i64 t405, .slice Ao36 t406.length co36] 24 (0, 0)) (by (with_reducible repeat (first | refine blk_drewN ?_ _ | refine blk_drew ?_ | refine blk_alloc ?_ _)); refine blk_far ?_ NB410_418.out _; (with_reducible repeat (first | refine blk_drewN ?_ _ | refine blk_drew ?_ | refine blk_alloc ?_ _)); refine blk_far ?_ NB410_418.out _; (with_reducible repeat (first | refine blk_drewN ?_ _ | refine blk_drew ?_ | refine blk_alloc ?_ _)); refine blk_far ?_ NB410_418.out _; (with_reducible repeat (first | refine blk_drewN ?_ _ | refine blk_drew ?_ | refine blk_alloc ?_ _)); exact BK410.out) hb); have n6_ := Aside0.mk (blk_below (g := gb418) (o := .cells #[.int .i64 t412, .int .i64 t413, .slice Ao45 t414.length co45] 24 (0, 0)) (by (with_reducible repeat (first | refine blk_drewN ?_ _ | refine blk_drew ?_ | refine blk_alloc ?_ _)); refine blk_put (cs := #[.int .i64 t412, .int .i64 t413, .slice none 0 0]) ?_ 2 _ rfl; (with_reducible repeat (first | refine blk_drewN ?_ _ | refine blk_drew ?_ | refine blk_alloc ?_ _)); refine blk_put (cs := #[.int .i64 t412, .int .i64 0, .slice none 0 0]) ?_ 1 _ rfl; (with_reducible repeat (first | refine blk_drewN ?_ _ | refine blk_drew ?_ | refine blk_alloc ?_ _)); refine blk_put (cs := #[.int .i64 0, .int .i64 0, .slice none 0 0]) ?_ 0 _ rfl; (with_reducible repeat (first | refine blk_drewN ?_ _ | refine blk_drew ?_ | refine blk_alloc ?_ _)); exact BK418.out) hb); have n7_ := Aside0.mk (below_step bl_ hb); clear HO396; clear HO408; clear HO416; clear BK397; clear BK410; clear BK418; clear HB; have HO396 := n0_; have HO408 := n1_; have HO416 := n2_; have HO423 := n3_; have BK397 := n4_; have BK410 := n5_; have BK418 := n6_; have HB := n7_; clear n0_ n1_ n2_ n3_ n4_ n5_ n6_ n7_; (try clear hb); (try clear hb2); (try clear hk); (try clear hi); (try clear ho0)) | ((with_reducible refine gate_dst (N := 13) rfl ?_); (try (refine gate_guard (by rfl) ?_; dsimp only)); refine box_event ?hg (N := 13) ?hd (cs := #[.int .i64 0, .int .i64 0, .slice none 0 0]) (t := 24) ?hr ?_; (case hd => rfl); (case hg => rfl); (case hr => first | (go_simp; done) | (go_simp; rfl)); intro gb425 hg w48 hbox hb; have n0_ := Aside0.mk (Kd.R_below (ra_ HO396.out) hb); have n1_ := Aside0.mk (Kd.R_below (ra_ HO408.out) hb); have n2_ := Aside0.mk (Kd.R_below (ra_ HO416.out) hb); have n3_ := Aside0.mk (Kd.R_below (ra_ HO423.out) hb); have n4_ := Aside0.mk (blk_below (g := gb397) (o := .cells #[.int .i64 t392, .int .i64 t393, .slice Ao28 t394.length co28] 24 (0, 0)) (bk_ BK397.out) hb); have n5_ := Aside0.mk (blk_below (g := gb410) (o := .cells #[.int .i64 t404, .int .i64 t405, .slice Ao36 t406.length co36] 24 (0, 0)) (bk_ BK410.out) hb); have n6_ := Aside0.mk (blk_below (g := gb418) (o := .cells #[.int .i64 t412, .int .i64 t413, .slice Ao45 t414.length co45] 24 (0, 0)) (bk_ BK418.out) hb); have n7_ := Aside0.mk (below_step bl_ hb); have n8_ := Aside0.mk (hbox); have n9_ := Aside0.mk ((hz_ : w.heap.size ≤ gb425)); have n10_ := Aside0.mk ((hz_ : w.heap.size ≤ gb425)); have n11_ := Aside0.mk ((by rw [hg]; exact Nat.ne_of_lt (blk_lt (g := gb397) (o := .cells #[.int .i64 t392, .int .i64 t393, .slice Ao28 t394.length co28] 24 (0, 0)) (bk_ BK397.out)) : gb397 ≠ gb425)); have n12_ := Aside0.mk ((by rw [hg]; exact Nat.ne_of_gt (blk_lt (g := gb397) (o := .cells #[.int .i64 t392, .int .i64 t393, .slice Ao28 t394.length co28] 24 (0, 0)) (bk_ BK397.out)) : gb425 ≠ gb397)); have n13_ := Aside0.mk ((by rw [hg]; exact Nat.ne_of_lt (blk_lt (g := gb410) (o := .cells #[.int .i64 t404, .int .i64 t405, .slice Ao36 t406.length co36] 24 (0, 0)) (bk_ BK410.out)) : gb410 ≠ gb425)); have n14_ := Aside0.mk ((by rw [hg]; exact Nat.ne_of_gt (blk_lt (g := gb410) (o := .cells #[.int .i64 t404, .int .i64 t405, .slice Ao36 t406.length co36] 24 (0, 0)) (bk_ BK410.out)) : gb425 ≠ gb410)); have n15_ := Aside0.mk ((by rw [hg]; exact Nat.ne_of_lt (blk_lt (g := gb418) (o := .cells #[.int .i64 t412, .int .i64 t413, .slice Ao45 t414.length co45] 24 (0, 0)) (bk_ BK418.out)) : gb418 ≠ gb425)); have n16_ := Aside0.mk ((by rw [hg]; exact Nat.ne_of_gt (blk_lt (g := gb418) (o := .cells #[.int .i64 t412, .int .i64 t413, .slice Ao45 t414.length co45] 24 (0, 0)) (bk_ BK418.out)) : gb425 ≠ gb418)); clear HO396; clear HO408; clear HO416; clear HO423; clear BK397; clear BK410; clear BK418; clear HB; have HO396 := n0_; have HO408 := n1_; have HO416 := n2_; have HO423 := n3_; have BK397 := n4_; have BK410 := n5_; have BK418 := n6_; have HB := n7_; have BK425 := n8_; have GW425 := n9_; have GE425 := n10_; have NB397_425 := n11_; have NB425_397 := n12_; have NB410_425 := n13_; have NB425_410 := n14_; have NB418_425 := n15_; have NB425_418 := n16_; clear n0_ n1_ n2_ n3_ n4_ n5_ n6_ n7_ n8_ n9_ n10_ n11_ n12_ n13_ n14_ n15_ n16_; clear hb hbox hg; have hnb49 := NB425_397.out; have hnc49 := NB397_425.out; have hnb50 := NB425_410.out; have hnc50 := NB410_425.out; have hnb51 := NB425_418.out; have hnc51 := NB418_425.out; have hcz52_0 : w48.cell? ⟨gb425, 0, none⟩ = some (.int .i64 0) := (blk_cell BK425.out 0).trans rfl; have hcz52_1 : w48.cell? ⟨gb425, 1, none⟩ = some (.int .i64 0) := (blk_cell BK425.out 1).trans rfl; have hcz52_2 : w48.cell? ⟨gb425, 2, none⟩ = some (.slice none 0 0) := (blk_cell BK425.out 2).trans rfl; have hfz52_0 := blk_frozen BK425.out 0; have hfz52_1 := blk_frozen BK425.out 1; have hfz52_2 := blk_frozen BK425.out 2; obtain ⟨Ao53, co53, eo53⟩ := Kd.R_slice HO423.out; subst eo53; have hcz54_0 : w48.cell? ⟨gb410, 0, none⟩ = some (.int .i64 t404) := (blk_cell BK410.out 0).trans rfl; have hcz54_1 : w48.cell? ⟨gb410, 1, none⟩ = some (.int .i64 t405) := (blk_cell BK410.out 1).trans rfl; have hcz54_2 : w48.cell? ⟨gb410, 2, none⟩ = some (.slice Ao36 t406.length co36) := (blk_cell BK410.out 2).trans rfl; have hfz54_0 := blk_frozen BK410.out 0; have hfz54_1 := blk_frozen BK410.out 1; have hfz54_2 := blk_frozen BK410.out 2; have hcz55_0 : w48.cell? ⟨gb397, 0, none⟩ = some (.int .i64 t392) := (blk_cell BK397.out 0).trans rfl; have hcz55_1 : w48.cell? ⟨gb397, 1, none⟩ = some (.int .i64 t393) := (blk_cell BK397.out 1).trans rfl; have hcz55_2 : w48.cell? ⟨gb397, 2, none⟩ = some (.slice Ao28 t394.length co28) := (blk_cell BK397.out 2).trans rfl; have hfz55_0 := blk_frozen BK397.out 0; have hfz55_1 := blk_frozen BK397.out 1; have hfz55_2 := blk_frozen BK397.out 2) | (go_at_call 26; (with_reducible refine (laws_sameCall.calls k t404 t405 _ _ t406 t392 t393 _ _ t394 true _ ?side1 ?side2 ?side3 ?side4 A18.out).mono ?_); (case side1 => refine (Kd.R_reads' (e := 103) (base := w.heap.size) (ok := fun k_ => (((True ∧ some k_ ≠ (.slice Ao28 t394.length co28 : Value).ownBlock) ∧ some k_ ≠ (.slice Ao45 t414.length co45 : Value).ownBlock) ∧ some k_ ≠ (.slice Ao53 t421.length co53 : Value).ownBlock)) (n := t406.length) (c := co36) ?_).2.2; exact (by (with_reducible repeat (first | apply Kd.R_alloc | apply Kd.R_drewN | apply Kd.R_drew)); exact (Kd.R_mono (Kd.R_far (p := ⟨gb425, 2, none⟩) (Kd.R_far (p := ⟨gb425, 1, none⟩) (Kd.R_far (p := ⟨gb425, 0, none⟩) (Kd.R_types HO408.out BK425.out (by decide)) (fun _ hk => hk.2) (.int .i64 t419)) (fun _ hk => hk.2) (.int .i64 t420)) (fun _ hk => hk.2) (.slice Ao53 t421.length co53)) (fun _ h_ => h_.1)))); (case side2 => exact (Kd.R_reads' HO408.out).2.1); (case side3 => refine (Kd.R_reads' (e := 103) (base := w.heap.size) (ok := fun k_ => (((True ∧ some k_ ≠ (.slice Ao36 t406.length co36 : Value).ownBlock) ∧ some k_ ≠ (.slice Ao45 t414.length co45 : Value).ownBlock) ∧ some k_ ≠ (.slice Ao53 t421.length co53 : Value).ownBlock)) (n := t394.length) (c := co28) ?_).2.2; exact (by (with_reducible repeat (first | apply Kd.R_alloc | apply Kd.R_drewN | apply Kd.R_drew)); exact (Kd.R_mono (Kd.R_far (p := ⟨gb425, 2, none⟩) (Kd.R_far (p := ⟨gb425, 1, none⟩) (Kd.R_far (p := ⟨gb425, 0, none⟩) (Kd.R_types HO396.out BK425.out (by decide)) (fun _ hk => hk.2) (.int .i64 t419)) (fun _ hk => hk.2) (.int .i64 t420)) (fun _ hk => hk.2) (.slice Ao53 t421.length co53)) (fun _ h_ => h_.1)))); (case side4 => exact (Kd.R_reads' HO396.out).2.1); rintro e w56 ⟨rfl, hb⟩; have n0_ := Aside0.mk (Kd.R_below (by (with_reducible repeat (first | apply Kd.R_alloc | apply Kd.R_drewN | apply Kd.R_drew)); exact (Kd.R_mono (Kd.R_far (p := ⟨gb425, 2, none⟩) (Kd.R_far (p := ⟨gb425, 1, none⟩) (Kd.R_far (p := ⟨gb425, 0, none⟩) (Kd.R_types HO396.out BK425.out (by decide)) (fun _ hk => hk.2) (.int .i64 t419)) (fun _ hk => hk.2) (.int .i64 t420)) (fun _ hk => hk.2) (.slice Ao53 t421.length co53)) (fun _ h_ => h_.1))) hb); have n1_ := Aside0.mk (Kd.R_below (by (with_reducible repeat (first | apply Kd.R_alloc | apply Kd.R_drewN | apply Kd.R_drew)); exact (Kd.R_mono (Kd.R_far (p := ⟨gb425, 2, none⟩) (Kd.R_far (p := ⟨gb425, 1, none⟩) (Kd.R_far (p := ⟨gb425, 0, none⟩) (Kd.R_types HO408.out BK425.out (by decide)) (fun _ hk => hk.2) (.int .i64 t419)) (fun _ hk => hk.2) (.int .i64 t420)) (fun _ hk => hk.2) (.slice Ao53 t421.length co53)) (fun _ h_ => h_.1))) hb); have n2_ := Aside0.mk (Kd.R_below (by (with_reducible repeat (first | apply Kd.R_alloc | apply Kd.R_drewN | apply Kd.R_drew)); exact (Kd.R_mono (Kd.R_far (p := ⟨gb425, 2, none⟩) (Kd.R_far (p := ⟨gb425, 1, none⟩) (Kd.R_far (p := ⟨gb425, 0, none⟩) (Kd.R_types HO416.out BK425.out (by decide)) (fun _ hk => hk.2) (.int .i64 t419)) (fun _ hk => hk.2) (.int .i64 t420)) (fun _ hk => hk.2) (.slice Ao53 t421.length co53)) (fun _ h_ => h_.1))) hb); have n3_ := Aside0.mk (Kd.R_below (by (with_reducible repeat (first | apply Kd.R_alloc | apply Kd.R_drewN | apply Kd.R_drew)); exact (Kd.R_mono (Kd.R_far (p := ⟨gb425, 2, none⟩) (Kd.R_far (p := ⟨gb425, 1, none⟩) (Kd.R_far (p := ⟨gb425, 0, none⟩) (Kd.R_types HO423.out BK425.out (by decide)) (fun _ hk => hk.2) (.int .i64 t419)) (fun _ hk => hk.2) (.int .i64 t420)) (fun _ hk => hk.2) (.slice Ao53 t421.length co53)) (fun _ h_ => h_.1))) hb); have n4_ := Aside0.mk (blk_below (g := gb397) (o := .cells #[.int .i64 t392, .int .i64 t393, .slice Ao28 t394.length co28] 24 (0, 0)) (by (with_reducible repeat (first | refine blk_drewN ?_ _ | refine blk_drew ?_ | refine blk_alloc ?_ _)); refine blk_far ?_ NB397_425.out _; (with_reducible repeat (first | refine blk_drewN ?_ _ | refine blk_drew ?_ | refine blk_alloc ?_ _)); refine blk_far ?_ NB397_425.out _; (with_reducible repeat (first | refine blk_drewN ?_ _ | refine blk_drew ?_ | refine blk_alloc ?_ _)); refine blk_far ?_ NB397_425.out _; (with_reducible repeat (first | refine blk_drewN ?_ _ | refine blk_drew ?_ | refine blk_alloc ?_ _)); exact BK397.out) hb); have n5_ := Aside0.mk (blk_below (g := gb410) (o := .cells #[.int .i64 t404, .int .i64 t405, .slice Ao36 t406.length co36] 24 (0, 0)) (by (with_reducible repeat (first | refine blk_drewN ?_ _ | refine blk_drew ?_ | refine blk_alloc ?_ _)); refine blk_far ?_ NB410_425.out _; (with_reducible repeat (first | refine blk_drewN ?_ _ | refine blk_drew ?_ | refine blk_alloc ?_ _)); refine blk_far ?_ NB410_425.out _; (with_reducible repeat (first | refine blk_drewN ?_ _ | refine blk_drew ?_ | refine blk_alloc ?_ _)); refine blk_far ?_ NB410_425.out _; (with_reducible repeat (first | refine blk_drewN ?_ _ | refine blk_drew ?_ | refine blk_alloc ?_ _)); exact BK410.out) hb); have n6_ := Aside0.mk (blk_below (g := gb418) (o := .cells #[.int .i64 t412, .int .i64 t413, .slice Ao45 t414.length co45] 24 (0, 0)) (by (with_reducible repeat (first | refine blk_drewN ?_ _ | refine blk_drew ?_ | refine blk_alloc ?_ _)); refine blk_far ?_ NB418_425.out _; (with_reducible repeat (first | refine blk_drewN ?_ _ | refine blk_drew ?_ | refine blk_alloc ?_ _)); refine blk_far ?_ NB418_425.out _; (with_reducible repeat (first | refine blk_drewN ?_ _ | refine blk_drew ?_ | refine blk_alloc ?_ _)); refine blk_far ?_ NB418_425.out _; (with_reducible repeat (first | refine blk_drewN ?_ _ | refine blk_drew ?_ | refine blk_alloc ?_ _)); exact BK418.out) hb); have n7_ := Aside0.mk (blk_below (g := gb425) (o := .cells #[.int .i64 t419, .int .i64 t420, .slice Ao53 t421.length co53] 24 (0, 0)) (by (with_reducible repeat (first | refine blk_drewN ?_ _ | refine blk_drew ?_ | refine blk_alloc ?_ _)); refine blk_put (cs := #[.int .i64 t419, .int .i64 t420, .slice none 0 0]) ?_ 2 _ rfl; (with_reducible repeat (first | refine blk_drewN ?_ _ | refine blk_drew ?_ | refine blk_alloc ?_ _)); refine blk_put (cs := #[.int .i64 t419, .int .i64 0, .slice none 0 0]) ?_ 1 _ rfl; (with_reducible repeat (first | refine blk_drewN ?_ _ | refine blk_drew ?_ | refine blk_alloc ?_ _)); refine blk_put (cs := #[.int .i64 0, .int .i64 0, .slice none 0 0]) ?_ 0 _ rfl; (with_reducible repeat (first | refine blk_drewN ?_ _ | refine blk_drew ?_ | refine blk_alloc ?_ _)); exact BK425.out) hb); have n8_ := Aside0.mk (below_step bl_ hb); clear HO396; clear HO408; clear HO416; clear HO423; clear BK397; clear BK410; clear BK418; clear BK425; clear HB; have HO396 := n0_; have HO408 := n1_; have HO416 := n2_; have HO423 := n3_; have BK397 := n4_; have BK410 := n5_; have BK418 := n6_; have BK425 := n7_; have HB := n8_; clear n0_ n1_ n2_ n3_ n4_ n5_ n6_ n7_ n8_; (try clear hb); (try clear hb2); (try clear hk); (try clear hi); have hcz57_0 : w56.cell? ⟨gb418, 0, none⟩ = some (.int .i64 t412) := (blk_cell BK418.out 0).trans rfl; have hcz57_1 : w56.cell? ⟨gb418, 1, none⟩ = some (.int .i64 t413) := (blk_cell BK418.out 1).trans rfl; have hcz57_2 : w56.cell? ⟨gb418, 2, none⟩ = some (.slice Ao45 t414.length co45) := (blk_cell BK418.out 2).trans rfl; have hfz57_0 := blk_frozen BK418.out 0; have hfz57_1 := blk_frozen BK418.out 1; have hfz57_2 := blk_frozen BK418.out 2; have hcz58_0 : w56.cell? ⟨gb397, 0, none⟩ = some (.int .i64 t392) := (blk_cell BK397.out 0).trans rfl; have hcz58_1 : w56.cell? ⟨gb397, 1, none⟩ = some (.int .i64 t393) := (blk_cell BK397.out 1).trans rfl; have hcz58_2 : w56.cell? ⟨gb397, 2, none⟩ = some (.slice Ao28 t394.length co28) := (blk_cell BK397.out 2).trans rfl; have hfz58_0 := blk_frozen BK397.out 0; have hfz58_1 := blk_frozen BK397.out 1; have hfz58_2 := blk_frozen BK397.out 2) | (go_at_call 26; (with_reducible refine (laws_sameCall.calls k t412 t413 _ _ t414 t392 t393 _ _ t394 true _ ?side1 ?side2 ?side3 ?side4 A20.out).mono ?_); (case side1 => repeat (first | exact (Kd.R_reads' HO416.out).2.2 | (with_reducible refine Kd.C_alloc ?_ _) | (with_reducible refine Kd.C_drewN ?_ _) | (with_reducible refine Kd.C_drew ?_))); (case side2 => exact (Kd.R_reads' HO416.out).2.1); (case side3 => repeat (first | exact (Kd.R_reads' HO396.out).2.2 | (with_reducible refine Kd.C_alloc ?_ _) | (with_reducible refine Kd.C_drewN ?_ _) | (with_reducible refine Kd.C_drew ?_))); (case side4 => exact (Kd.R_reads' HO396.out).2.1); rintro e w59 ⟨rfl, hb⟩; have n0_ := Aside0.mk (Kd.R_below (ra_ HO396.out) hb); have n1_ := Aside0.mk (Kd.R_below (ra_ HO408.out) hb); have n2_ := Aside0.mk (Kd.R_below (ra_ HO416.out) hb); have n3_ := Aside0.mk (Kd.R_below (ra_ HO423.out) hb); have n4_ := Aside0.mk (blk_below (g := gb397) (o := .cells #[.int .i64 t392, .int .i64 t393, .slice Ao28 t394.length co28] 24 (0, 0)) (bk_ BK397.out) hb); have n5_ := Aside0.mk (blk_below (g := gb410) (o := .cells #[.int .i64 t404, .int .i64 t405, .slice Ao36 t406.length co36] 24 (0, 0)) (bk_ BK410.out) hb); have n6_ := Aside0.mk (blk_below (g := gb418) (o := .cells #[.int .i64 t412, .int .i64 t413, .slice Ao45 t414.length co45] 24 (0, 0)) (bk_ BK418.out) hb); have n7_ := Aside0.mk (blk_below (g := gb425) (o := .cells #[.int .i64 t419, .int .i64 t420, .slice Ao53 t421.length co53] 24 (0, 0)) (bk_ BK425.out) hb); have n8_ := Aside0.mk (below_step bl_ hb); clear HO396; clear HO408; clear HO416; clear HO423; clear BK397; clear BK410; clear BK418; clear BK425; clear HB; have HO396 := n0_; have HO408 := n1_; have HO416 := n2_; have HO423 := n3_; have BK397 := n4_; have BK410 := n5_; have BK418 := n6_; have BK425 := n7_; have HB := n8_; clear n0_ n1_ n2_ n3_ n4_ n5_ n6_ n7_ n8_; (try clear hb); (try clear hb2); (try clear hk); (try clear hi); have hcz60_0 : w59.cell? ⟨gb425, 0, none⟩ = some (.int .i64 t419) := (blk_cell BK425.out 0).trans rfl; have hcz60_1 : w59.cell? ⟨gb425, 1, none⟩ = some (.int .i64 t420) := (blk_cell BK425.out 1).trans rfl; have hcz60_2 : w59.cell? ⟨gb425, 2, none⟩ = some (.slice Ao53 t421.length co53) := (blk_cell BK425.out 2).trans rfl; have hfz60_0 := blk_frozen BK425.out 0; have hfz60_1 := blk_frozen BK425.out 1; have hfz60_2 := blk_frozen BK425.out 2; have hcz61_0 : w59.cell? ⟨gb397, 0, none⟩ = some (.int .i64 t392) := (blk_cell BK397.out 0).trans rfl; have hcz61_1 : w59.cell? ⟨gb397, 1, none⟩ = some (.int .i64 t393) := (blk_cell BK397.out 1).trans rfl; have hcz61_2 : w59.cell? ⟨gb397, 2, none⟩ = some (.slice Ao28 t394.length co28) := (blk_cell BK397.out 2).trans rfl; have hfz61_0 := blk_frozen BK397.out 0; have hfz61_1 := blk_frozen BK397.out 1; have hfz61_2 := blk_frozen BK397.out 2) | (go_at_call 26; (with_reducible refine (laws_sameCall.calls k t419 t420 _ _ t421 t392 t393 _ _ t394 true _ ?side1 ?side2 ?side3 ?side4 A22.out).mono ?_); (case side1 => repeat (first | exact (Kd.R_reads' HO423.out).2.2 | (with_reducible refine Kd.C_alloc ?_ _) | (with_reducible refine Kd.C_drewN ?_ _) | (with_reducible refine Kd.C_drew ?_))); (case side2 => exact (Kd.R_reads' HO423.out).2.1); (case side3 => repeat (first | exact (Kd.R_reads' HO396.out).2.2 | (with_reducible refine Kd.C_alloc ?_ _) | (with_reducible refine Kd.C_drewN ?_ _) | (with_reducible refine Kd.C_drew ?_))); (case side4 => exact (Kd.R_reads' HO396.out).2.1); rintro e w62 ⟨rfl, hb⟩; have n0_ := Aside0.mk (Kd.R_below (ra_ HO396.out) hb); have n1_ := Aside0.mk (Kd.R_below (ra_ HO408.out) hb); have n2_ := Aside0.mk (Kd.R_below (ra_ HO416.out) hb); have n3_ := Aside0.mk (Kd.R_below (ra_ HO423.out) hb); have n4_ := Aside0.mk (blk_below (g := gb397) (o := .cells #[.int .i64 t392, .int .i64 t393, .slice Ao28 t394.length co28] 24 (0, 0)) (bk_ BK397.out) hb); have n5_ := Aside0.mk (blk_below (g := gb410) (o := .cells #[.int .i64 t404, .int .i64 t405, .slice Ao36 t406.length co36] 24 (0, 0)) (bk_ BK410.out) hb); have n6_ := Aside0.mk (blk_below (g := gb418) (o := .cells #[.int .i64 t412, .int .i64 t413, .slice Ao45 t414.length co45] 24 (0, 0)) (bk_ BK418.out) hb); have n7_ := Aside0.mk (blk_below (g := gb425) (o := .cells #[.int .i64 t419, .int .i64 t420, .slice Ao53 t421.length co53] 24 (0, 0)) (bk_ BK425.out) hb); have n8_ := Aside0.mk (below_step bl_ hb); clear HO396; clear HO408; clear HO416; clear HO423; clear BK397; clear BK410; clear BK418; clear BK425; clear HB; have HO396 := n0_; have HO408 := n1_; have HO416 := n2_; have HO423 := n3_; have BK397 := n4_; have BK410 := n5_; have BK418 := n6_; have BK425 := n7_; have HB := n8_; clear n0_ n1_ n2_ n3_ n4_ n5_ n6_ n7_ n8_; (try clear hb); (try clear hb2); (try clear hk); (try clear hi)))
             go_ret
             exact ⟨by first | rfl | (simp [errW_none, errW_some] <;> rfl) | (simp [*, errW_none, errW_some] <;> rfl) | exact False.elim (Bool.noConfusion ((decide_eq_true (of_eq_true (by assumption))).symm.trans (by assumption))), bl_⟩
            ·rw [if_neg c24] at H
             have c24b0 : ((t402.size : Int) == 32) = false := beq_eq_false_iff_ne.mpr c24
             have c24b1 : ((t402.size : Int) != 32) = true := bne_iff_ne.mpr c24
             exact absurd ((Option.some.inj H).trans HR1.out) (by decide)
           ·replace c23 := Bool.eq_false_iff.mpr c23
            subst c23
            rw [if_neg (show ¬ (false = true) by decide)] at H
            exact absurd ((Option.some.inj H).trans HR1.out) (by decide)
          ·replace c21 := Bool.eq_false_iff.mpr c21
           subst c21
           rw [if_neg (show ¬ (false = true) by decide)] at H
           exact absurd ((Option.some.inj H).trans HR1.out) (by decide)
         ·replace c19 := Bool.eq_false_iff.mpr c19
          subst c19
          rw [if_neg (show ¬ (false = true) by decide)] at H
          exact absurd ((Option.some.inj H).trans HR1.out) (by decide)
        ·replace c17 := Bool.eq_false_iff.mpr c17
         subst c17
         rw [if_neg (show ¬ (false = true) by decide)] at H
         exact absurd ((Option.some.inj H).trans HR1.out) (by decide)
       ·replace c16 := Bool.eq_false_iff.mpr c16
        subst c16
        rw [if_neg (show ¬ (false = true) by decide)] at H
        exact absurd ((Option.some.inj H).trans HR1.out) (by decide)
      ·replace c15 := Bool.eq_false_iff.mpr c15
       subst c15
       rw [if_neg (show ¬ (false = true) by decide)] at H
       exact absurd ((Option.some.inj H).trans HR1.out) (by decide)
     ·replace c14 := Bool.eq_false_iff.mpr c14
      subst c14
      rw [if_neg (show ¬ (false = true) by decide)] at H
      exact absurd ((Option.some.inj H).trans HR1.out) (by decide)
    ·rw [if_neg c12] at H
     exact absurd H (by simp)
   ·rw [if_neg c11] at H
    exact absurd H (by simp)
  ·replace c6 := Bool.eq_false_iff.mpr c6
   subst c6
   rw [if_neg (show ¬ (false = true) by decide)] at H
   replace H := Option.bind_eq_some_iff.mp H
   obtain ⟨⟨t399, t400⟩, A630, H⟩ := H
   try dsimp only at H
   have A63 := Aside0.mk A630
   clear A630
   by_cases c64 : t400 = true
   ·subst c64
    rw [if_pos rfl] at H
    exact absurd ((Option.some.inj H).trans HR1.out) (by decide)
   ·replace c64 := Bool.eq_false_iff.mpr c64
    subst c64
    rw [if_neg (show ¬ (false = true) by decide)] at H
    replace H := Option.bind_eq_some_iff.mp H
    obtain ⟨t401, A650, H⟩ := H
    try dsimp only at H
    have A65 := Aside0.mk A650
    clear A650
    obtain rfl := Option.some.inj H
    go_enter Try.func4, Try.ntmps4
    go_wp2_with (first | ((with_reducible refine gate_callee (f := 20) rfl ?_); refine goesL_ (some 16) rfl rfl Try.func20 (by kernel_rfl) rfl #[.slice A0 l0.length c0] rfl lm_ ?_; (with_reducible refine (laws_big.calls _ _ l0 false _ ?side1 ?side2 A2.out).mono ?_); (case side1 => repeat (first | exact HR0.out | (with_reducible refine Kd.C_alloc ?_ _) | (with_reducible refine Kd.C_drewN ?_ _) | (with_reducible refine Kd.C_drew ?_))); (case side2 => exact HC0.out); rintro e w' ⟨rfl, ⟨nd, rfl⟩⟩; refine ⟨_, rfl, ?_⟩) | ((with_reducible refine gate_callee (f := 21) rfl ?_); refine goesL_ (some 18) rfl rfl Try.func21 (by kernel_rfl) rfl #[.slice A0 l0.length c0] rfl lm_ ?_; (with_reducible refine (spec_DrawCall.calls k _ _ l0 t392 t393 t394 _ ?side1 ?side2 A4.out).mono ?_); (case side1 => repeat (first | exact HR0.out | (with_reducible refine Kd.C_alloc ?_ _) | (with_reducible refine Kd.C_drewN ?_ _) | (with_reducible refine Kd.C_drew ?_))); (case side2 => exact HC0.out); rintro e w66 ⟨v395, rfl, ho0, hb⟩; refine ⟨_, rfl, ?_⟩; have n0_ := Aside0.mk (Kd.R_lower ho0 (below_size bl_)); have n1_ := Aside0.mk (below_step bl_ hb); clear HB; have HO396 := n0_; have HB := n1_; clear n0_ n1_; (try clear hb); (try clear hb2); (try clear hk); (try clear hi); (try clear ho0)) | ((with_reducible refine gate_dst (N := 3) rfl ?_); (try (refine gate_guard (by rfl) ?_; dsimp only)); refine box_event ?hg (N := 3) ?hd (cs := #[.int .i64 0, .int .i64 0, .slice none 0 0]) (t := 24) ?hr ?_; (case hd => rfl); (case hg => rfl); (case hr => first | (go_simp; done) | (go_simp; rfl)); intro gb397 hg w67 hbox hb; have n0_ := Aside0.mk (Kd.R_below (ra_ HO396.out) hb); have n1_ := Aside0.mk (below_step bl_ hb); have n2_ := Aside0.mk (hbox); have n3_ := Aside0.mk ((hz_ : w.heap.size ≤ gb397)); have n4_ := Aside0.mk ((hz_ : w.heap.size ≤ gb397)); clear HO396; clear HB; have HO396 := n0_; have HB := n1_; have BK397 := n2_; have GW397 := n3_; have GE397 := n4_; clear n0_ n1_ n2_ n3_ n4_; clear hb hbox hg; have hcz68_0 : w67.cell? ⟨gb397, 0, none⟩ = some (.int .i64 0) := (blk_cell BK397.out 0).trans rfl; have hcz68_1 : w67.cell? ⟨gb397, 1, none⟩ = some (.int .i64 0) := (blk_cell BK397.out 1).trans rfl; have hcz68_2 : w67.cell? ⟨gb397, 2, none⟩ = some (.slice none 0 0) := (blk_cell BK397.out 2).trans rfl; have hfz68_0 := blk_frozen BK397.out 0; have hfz68_1 := blk_frozen BK397.out 1; have hfz68_2 := blk_frozen BK397.out 2; obtain ⟨Ao69, co69, eo69⟩ := Kd.R_slice HO396.out; subst eo69) | ((with_reducible refine gate_callee (f := 22) rfl ?_); refine goesL_ (some 20) rfl rfl Try.func22 (by kernel_rfl) rfl #[.agg #[.int .i64 t392, .int .i64 t393, .slice Ao69 t394.length co69]] rfl lm_ ?_; (with_reducible refine (spec_CallOk.calls k t392 t393 _ _ t394 false _ ?side1 ?side2 A5.out).mono ?_); (case side1 => refine (Kd.R_reads' (e := 103) (base := w.heap.size) (ok := fun k_ => True) (n := t394.length) (c := co69) ?_).2.2; exact (by (with_reducible repeat (first | apply Kd.R_alloc | apply Kd.R_drewN | apply Kd.R_drew)); exact (Kd.R_mono (Kd.R_far (p := ⟨gb397, 2, none⟩) (Kd.R_far (p := ⟨gb397, 1, none⟩) (Kd.R_far (p := ⟨gb397, 0, none⟩) (Kd.R_types HO396.out BK397.out (by decide)) (fun _ hk => hk.2) (.int .i64 t392)) (fun _ hk => hk.2) (.int .i64 t393)) (fun _ hk => hk.2) (.slice Ao69 t394.length co69)) (fun _ h_ => h_.1)))); (case side2 => exact (Kd.R_reads' HO396.out).2.1); rintro e w70 ⟨rfl, hb⟩; refine ⟨_, rfl, ?_⟩; have n0_ := Aside0.mk (Kd.R_below (by (with_reducible repeat (first | apply Kd.R_alloc | apply Kd.R_drewN | apply Kd.R_drew)); exact (Kd.R_mono (Kd.R_far (p := ⟨gb397, 2, none⟩) (Kd.R_far (p := ⟨gb397, 1, none⟩) (Kd.R_far (p := ⟨gb397, 0, none⟩) (Kd.R_types HO396.out BK397.out (by decide)) (fun _ hk => hk.2) (.int .i64 t392)) (fun _ hk => hk.2) (.int .i64 t393)) (fun _ hk => hk.2) (.slice Ao69 t394.length co69)) (fun _ h_ => h_.1))) hb); have n1_ := Aside0.mk (blk_below (g := gb397) (o := .cells #[.int .i64 t392, .int .i64 t393, .slice Ao69 t394.length co69] 24 (0, 0)) (by (with_reducible repeat (first | refine blk_drewN ?_ _ | refine blk_drew ?_ | refine blk_alloc ?_ _)); refine blk_put (cs := #[.int .i64 t392, .int .i64 t393, .slice none 0 0]) ?_ 2 _ rfl; (with_reducible repeat (first | refine blk_drewN ?_ _ | refine blk_drew ?_ | refine blk_alloc ?_ _)); refine blk_put (cs := #[.int .i64 t392, .int .i64 0, .slice none 0 0]) ?_ 1 _ rfl; (with_reducible repeat (first | refine blk_drewN ?_ _ | refine blk_drew ?_ | refine blk_alloc ?_ _)); refine blk_put (cs := #[.int .i64 0, .int .i64 0, .slice none 0 0]) ?_ 0 _ rfl; (with_reducible repeat (first | refine blk_drewN ?_ _ | refine blk_drew ?_ | refine blk_alloc ?_ _)); exact BK397.out) hb); have n2_ := Aside0.mk (below_step bl_ hb); clear HO396; clear BK397; clear HB; have HO396 := n0_; have BK397 := n1_; have HB := n2_; clear n0_ n1_ n2_; (try clear hb); (try clear hb2); (try clear hk); (try clear hi); have hcz71_0 : w70.cell? ⟨gb397, 0, none⟩ = some (.int .i64 t392) := (blk_cell BK397.out 0).trans rfl; have hcz71_1 : w70.cell? ⟨gb397, 1, none⟩ = some (.int .i64 t393) := (blk_cell BK397.out 1).trans rfl; have hcz71_2 : w70.cell? ⟨gb397, 2, none⟩ = some (.slice Ao69 t394.length co69) := (blk_cell BK397.out 2).trans rfl; have hfz71_0 := blk_frozen BK397.out 0; have hfz71_1 := blk_frozen BK397.out 1; have hfz71_2 := blk_frozen BK397.out 2) | ((with_reducible refine gate_callee (f := 23) rfl ?_); refine goesL_ (some 24) rfl rfl Try.func23 (by kernel_rfl) rfl #[.agg #[.int .i64 t392, .int .i64 t393, .slice Ao69 t394.length co69]] rfl lm_ ?_; (with_reducible refine (impl_CallText.calls k t392 t393 _ _ t394 t399 false _ ?side1 ?side2 A63.out).mono ?_); (case side1 => repeat (first | exact (Kd.R_reads' HO396.out).2.2 | (with_reducible refine Kd.C_alloc ?_ _) | (with_reducible refine Kd.C_drewN ?_ _) | (with_reducible refine Kd.C_drew ?_))); (case side2 => exact (Kd.R_reads' HO396.out).2.1); rintro e w72 ⟨rfl, hb⟩; refine ⟨_, rfl, ?_⟩; have n0_ := Aside0.mk (Kd.R_below (ra_ HO396.out) hb); have n1_ := Aside0.mk (blk_below (g := gb397) (o := .cells #[.int .i64 t392, .int .i64 t393, .slice Ao69 t394.length co69] 24 (0, 0)) (bk_ BK397.out) hb); have n2_ := Aside0.mk (below_step bl_ hb); clear HO396; clear BK397; clear HB; have HO396 := n0_; have BK397 := n1_; have HB := n2_; clear n0_ n1_ n2_; (try clear hb); (try clear hb2); (try clear hk); (try clear hi); have hcz73_0 : w72.cell? ⟨gb397, 0, none⟩ = some (.int .i64 t392) := (blk_cell BK397.out 0).trans rfl; have hcz73_1 : w72.cell? ⟨gb397, 1, none⟩ = some (.int .i64 t393) := (blk_cell BK397.out 1).trans rfl; have hcz73_2 : w72.cell? ⟨gb397, 2, none⟩ = some (.slice Ao69 t394.length co69) := (blk_cell BK397.out 2).trans rfl; have hfz73_0 := blk_frozen BK397.out 0; have hfz73_1 := blk_frozen BK397.out 1; have hfz73_2 := blk_frozen BK397.out 2) | (go_at_call 24; (with_reducible refine (impl_ShowCall.calls k t392 t393 _ _ t394 t401 _ ?side1 ?side2 A65.out).mono ?_); (case side1 => repeat (first | exact (Kd.R_reads' HO396.out).2.2 | (with_reducible refine Kd.C_alloc ?_ _) | (with_reducible refine Kd.C_drewN ?_ _) | (with_reducible refine Kd.C_drew ?_))); (case side2 => exact (Kd.R_reads' HO396.out).2.1); rintro e w74 ⟨rfl, hb⟩; have n0_ := Aside0.mk (Kd.R_below (ra_ HO396.out) hb); have n1_ := Aside0.mk (blk_below (g := gb397) (o := .cells #[.int .i64 t392, .int .i64 t393, .slice Ao69 t394.length co69] 24 (0, 0)) (bk_ BK397.out) hb); have n2_ := Aside0.mk (below_step bl_ hb); clear HO396; clear BK397; clear HB; have HO396 := n0_; have BK397 := n1_; have HB := n2_; clear n0_ n1_ n2_; (try clear hb); (try clear hb2); (try clear hk); (try clear hi)))
    go_ret
    exact ⟨by first | rfl | (simp [errW_none, errW_some] <;> rfl) | (simp [*, errW_none, errW_some] <;> rfl) | exact False.elim (Bool.noConfusion ((decide_eq_true (of_eq_true (by assumption))).symm.trans (by assumption))), bl_⟩

/-- THE ONE PURE STATEMENT of laws_FnCallTexts: yours. -/
def laws_FnCallTexts.Pure : Prop := ∀ (l0 : List Int), l0.length ≤ maxLen → l0.length * 1 ≤ 140737488351232 → (∀ x ∈ l0, (Lit.int .u8 x).wf = true) → ∃ k, laws_FnCallTexts.f k l0 = some true
theorem laws_FnCallTexts.walk (P : laws_FnCallTexts.Pure) (a0 : Option Addr) (len0 cap0 : Nat) (z0 : List Int) (w : World) (w0 : (a0 = none ∧ len0 = 0 ∧ cap0 = 0 ∧ z0 = []) ∨ ∃ x, a0 = some x ∧ len0 ≤ cap0 ∧ cap0 ≤ maxLen ∧ z0.length = cap0 ∧ (∀ i, i < z0.length → w.cell? (x.add i) = some (.int .u8 (z0.getD i 0))) ∧ ∀ n ∈ z0, (Lit.int .u8 n).wf = true) (y0 : len0 * 1 ≤ 140737488351232) :
 Calls Try.prog 4 #[.slice a0 len0 cap0] w fun e w' => e = .returned (.bool true) ∧ Below w.heap.size w w' := by
 obtain ⟨l0, rfl, hr0, hm0, hw0, hc0⟩ := ReadsInt.ofRowC w0
 obtain ⟨k, h⟩ := P l0 hm0 y0 hw0
 refine (laws_FnCallTexts.calls k _ _ l0 true w (Kd.C_of_reads (d := (0 : Int)) (h1 := fun _ => rfl) hr0) hc0 rfl h).mono ?_
 rintro e w' ⟨rfl, hd⟩
 exact ⟨rfl, hd⟩

end Go.Proofs.Ytmjlhikflhbdaaa.PA

namespace Go.Proofs.Ytmjlhikflhbdaaa.Kit
open Go.RowKit Go.Proofs.YtmjlhikflhbdaaaW.PrintWords Go.Proofs.YtmjlhikflhbdaaaW.PrintLast Go.Proofs.YtmjlhikflhbdaaaW.PrintMore
set_option linter.unusedVariables false
set_option linter.unusedSimpArgs false

theorem w64 {x : Int} (h0 : -9223372036854775808 ≤ x) (h1 : x ≤ 9223372036854775807) : wrap64 x = x := by unfold wrap64; omega

section
variable {α β : Type}
theorem evSucc {g : Nat → Option α} {r : α} (h : Ev (fun k => g (k + 1)) r) : Ev g r := Ev.step (fun _ => rfl) h
theorem evPos {c : Prop} [Decidable c] {g f : Nat → Option α} {r : α} (hc : c) (h : Ev g r) : Ev (fun k => if c then g k else f k) r := Ev.congr (fun k => if_pos hc) h
theorem evNeg {c : Prop} [Decidable c] {g f : Nat → Option α} {r : α} (hc : ¬ c) (h : Ev f r) : Ev (fun k => if c then g k else f k) r := Ev.congr (fun k => if_neg hc) h
theorem evIte {c : Prop} [Decidable c] {g f : Nat → Option α} {r s : α} (h : c → Ev g r) (h' : ¬ c → Ev f s) : Ev (fun k => if c then g k else f k) (if c then r else s) := by
 by_cases hc : c
 ·rw [if_pos hc]; exact evPos hc (h hc)
 ·rw [if_neg hc]; exact evNeg hc (h' hc)
theorem evSome (r : α) : Ev (fun _ => some r) r := Ev.now r
theorem evEq {g : Nat → Option α} {r s : α} (h : Ev g r) (e : r = s) : Ev g s := e ▸ h
/-- A value that needs no rounds. -/
theorem evBindS {x : Option α} {f : Nat → α → Option β} {a : α} {r : β} (h : x = some a) (k : Ev (fun n => f n a) r) : Ev (fun n => x.bind (f n)) r := by subst h; exact k
theorem evConst {x : Option α} {r : α} (h : x = some r) : Ev (fun _ => x) r := by subst h; exact Ev.now r
end

section
variable {α β : Type}
/-- A loop that counts up: from the last place back to the first. -/
theorem evUp {r : α} (n : Nat) (g : Nat → Nat → Option α) (step : ∀ i, i < n → Ev (g (i + 1)) r → Ev (g i) r) (last : Ev (g n) r) : Ev (g 0) r := by
 have key : ∀ d i, i + d = n → Ev (g i) r := by
  intro d
  induction d with
  | zero => intro i hi; rw [show i = n by omega]; exact last
  | succ d ih => intro i hi; exact step i (by omega) (ih (i + 1) (by omega))
 exact key n 0 (by omega)
theorem fillStep (f : α → β) (z : β) (l : List α) (i : Nat) (hi : i < l.length) :
 ((l.take i).map f ++ List.replicate (l.length - i) z).set i (f l[i]) = (l.take (i + 1)).map f ++ List.replicate (l.length - (i + 1)) z := by
 have h1 : ((l.take i).map f).length = i := by simp; omega
 rw [show l.length - i = (l.length - (i + 1)) + 1 by omega, List.replicate_succ, List.set_append_right _ _ (by omega), h1, Nat.sub_self, List.set_cons_zero,
  List.take_succ_eq_append_getElem hi, List.map_append, List.append_assoc]
 rfl
theorem takeSnoc (l : List α) (i : Nat) (hi : i < l.length) : l.take (i + 1) = l.take i ++ [l[i]] := List.take_succ_eq_append_getElem hi
theorem ci (i : Nat) : (i : Int) + 1 = ((i + 1 : Nat) : Int) := by omega
theorem sizeApp (a b : ByteArray) : (a ++ b).size = a.size + b.size := ByteArray.size_append
end

theorem okI64 {n : Int} (h : (Lit.int .i64 n).wf = true) : -9223372036854775808 ≤ n ∧ n ≤ 9223372036854775807 := by
 simp [Lit.wf, IntKind.min, IntKind.max, IntKind.signed, IntKind.bits] at h
 omega
end Go.Proofs.Ytmjlhikflhbdaaa.Kit

namespace Go.Proofs.Ytmjlhikflhbdaaa.Pure
open Go.RowKit Go.Proofs.Ytmjlhikflhbdaaa.PA Go.Proofs.YtmjlhikflhbdaaaW.PrintWords Go.Proofs.YtmjlhikflhbdaaaW.PrintLast Go.Proofs.YtmjlhikflhbdaaaW.PrintMore Go.Proofs.Ytmjlhikflhbdaaa.Kit
set_option linter.unusedVariables false
set_option linter.unusedSimpArgs false
theorem rdW (l : List S103) (i : Nat) (hi : i < l.length) : rd_T103 l (i : Int) = l[i] := by simp [rd_T103, hi]
theorem sizeData (s : ByteArray) : s.size = s.data.toList.length := by
 show s.data.size = _
 rw [Array.length_toList]
theorem toList_loop (bs : ByteArray) : ∀ (d i : Nat) (r : List UInt8), i + d = bs.size → ByteArray.toList.loop bs i r = r.reverse ++ bs.data.toList.drop i := by
 have hsz := sizeData bs
 intro d
 induction d with
 | zero =>
  intro i r h
  rw [ByteArray.toList.loop, if_neg (by omega), List.drop_of_length_le (by omega)]
  simp
 | succ d ih =>
  intro i r h
  rw [ByteArray.toList.loop, if_pos (by omega), ih (i + 1) _ (by omega)]
  have hi : i < bs.data.toList.length := by omega
  rw [List.drop_eq_getElem_cons hi]
  have hb : i < bs.data.size := by rw [← Array.length_toList]; exact hi
  have hg : bs.get! i = bs.data[i] := by
   show bs.data[i]! = _
   exact getElem!_pos bs.data i hb
  rw [List.reverse_cons, List.append_assoc, hg]
  simp
theorem toList_data (bs : ByteArray) : bs.toList = bs.data.toList := by
 unfold ByteArray.toList
 rw [toList_loop bs bs.size 0 [] (by omega)]
 simp
theorem toList_inj {a b : ByteArray} (h : a.toList = b.toList) : a = b := by
 rw [toList_data, toList_data] at h
 exact ByteArray.ext (Array.ext' h)
theorem bt_byte (t : ByteArray) (i : Nat) (h : i < t.size) : bt t (i : Int) = ((t[i]'h).toNat : Int) := by
 unfold bt
 rw [dif_pos (by simpa using h)]
 simp
theorem ext1 (t : ByteArray) (i : Nat) (h : i < t.size) : t.extract i (i + 1) = strOfNums [bt t (i : Int)] := by
 apply ByteArray.ext
 apply Array.ext'
 have hi : i < t.data.toList.length := by rw [← sizeData]; exact h
 rw [ByteArray.data_extract, Array.toList_extract, List.extract_eq_take_drop, List.drop_eq_getElem_cons hi, bt_byte t i h]
 simp [strOfNums]
 rfl
theorem extCat (t : ByteArray) (i j k : Nat) (h1 : i ≤ j) (h2 : j ≤ k) : t.extract i j ++ t.extract j k = t.extract i k := by
 rw [ByteArray.extract_append_extract, Nat.min_eq_left h1, Nat.max_eq_right h2]
theorem extAll (t : ByteArray) : t.extract 0 t.size = t := ByteArray.extract_zero_size
theorem bits_nat (op : BinOp) (k : IntKind) (x y : Int) : Go.bits op k x y = match op with
 | .and => k.wrap ((BitVec.ofInt k.bits x &&& BitVec.ofInt k.bits y).toNat : Int)
 | .or => k.wrap ((BitVec.ofInt k.bits x ||| BitVec.ofInt k.bits y).toNat : Int)
 | .xor => k.wrap ((BitVec.ofInt k.bits x ^^^ BitVec.ofInt k.bits y).toNat : Int)
 | .andNot => k.wrap ((BitVec.ofInt k.bits x &&& ~~~BitVec.ofInt k.bits y).toNat : Int)
 | _ => Go.bits op k x y := by
 cases op <;> rfl
theorem ofInt_nat64 (n : Nat) (h : n < 18446744073709551616) : (BitVec.ofInt 64 (n : Int)).toNat = n := by
 rw [BitVec.toNat_ofInt]; omega
theorem wrap_i64 (x : Int) : IntKind.wrap .i64 x = wrap64 x := i64_w x
def four4 (n : Int) : ByteArray := strOfNums [(n / 16777216) % 256, (n / 65536) % 256, (n / 256) % 256, n % 256]
theorem four4_size (n : Int) : (four4 n).size = 4 := by simp [four4, strOfNums_size]
theorem impl_four4 (n : Int) : impl_four.f n = some (four4 n) := rfl
theorem or_add (n m i : Nat) (hn : n < 2 ^ i) (hm : 2 ^ i * m + n < 9223372036854775808) : Go.bits .or .i64 (n : Int) ((m * 2 ^ i : Nat) : Int) = ((2 ^ i * m + n : Nat) : Int) := by
 have hm' : m * 2 ^ i < 18446744073709551616 := by rw [Nat.mul_comm]; omega
 rw [bits_nat]
 show IntKind.wrap .i64 ((BitVec.ofInt 64 (n : Int) ||| BitVec.ofInt 64 ((m * 2 ^ i : Nat) : Int)).toNat : Int) = _
 rw [BitVec.toNat_or, ofInt_nat64 n (by omega), ofInt_nat64 _ hm', wrap_i64, Nat.or_comm, Nat.mul_comm m, ← Nat.two_pow_add_eq_or_of_lt hn, w64 (by omega) (by omega)]
theorem or_comm64 (x y : Int) : Go.bits .or .i64 x y = Go.bits .or .i64 y x := by
 rw [bits_nat, bits_nat]
 show IntKind.wrap .i64 _ = IntKind.wrap .i64 _
 rw [BitVec.or_comm]
theorem or_hi (n m i : Nat) (hn : n < 2 ^ i) (hm : 2 ^ i * m + n < 9223372036854775808) : Go.bits .or .i64 ((m * 2 ^ i : Nat) : Int) (n : Int) = ((2 ^ i * m + n : Nat) : Int) := by
 rw [or_comm64]; exact or_add n m i hn hm
def fourV (t : ByteArray) (i : Int) : Int := (Go.bits .or .i64 (Go.bits .or .i64 (Go.bits .or .i64 (wrap64 ((wrap64 (bt t i)) * 16777216)) (wrap64 ((wrap64 (bt t (i + 1))) * 65536))) (wrap64 ((wrap64 (bt t (i + 2))) * 256))) (wrap64 (bt t (i + 3))))
theorem fourV_eq (t : ByteArray) (i : Int) : fourV t i = bt t i * 16777216 + bt t (i + 1) * 65536 + bt t (i + 2) * 256 + bt t (i + 3) := by
 have h0 := bt_range t i
 have h1 := bt_range t (i + 1)
 have h2 := bt_range t (i + 2)
 have h3 := bt_range t (i + 3)
 unfold fourV
 rw [w64 (x := bt t i) (by omega) (by omega), w64 (x := bt t (i + 1)) (by omega) (by omega), w64 (x := bt t (i + 2)) (by omega) (by omega), w64 (x := bt t (i + 3)) (by omega) (by omega),
  w64 (by omega) (by omega), w64 (by omega) (by omega), w64 (by omega) (by omega)]
 obtain ⟨a, ha⟩ := Int.eq_ofNat_of_zero_le h0.1
 obtain ⟨b, hb⟩ := Int.eq_ofNat_of_zero_le h1.1
 obtain ⟨c, hc⟩ := Int.eq_ofNat_of_zero_le h2.1
 obtain ⟨d, hd⟩ := Int.eq_ofNat_of_zero_le h3.1
 rw [ha, hb, hc, hd]
 have s1 : Go.bits .or .i64 ((a : Int) * 16777216) ((b : Int) * 65536) = (((a * 256 + b) * 2 ^ 16 : Nat) : Int) := by
  have h := or_hi (b * 65536) a 24 (by omega) (by omega)
  rw [show ((a : Int) * 16777216) = ((a * 2 ^ 24 : Nat) : Int) by omega, show ((b : Int) * 65536) = ((b * 65536 : Nat) : Int) by omega, h]
  omega
 have s2 : Go.bits .or .i64 (((a * 256 + b) * 2 ^ 16 : Nat) : Int) ((c : Int) * 256) = (((a * 65536 + b * 256 + c) * 2 ^ 8 : Nat) : Int) := by
  have h := or_hi (c * 256) (a * 256 + b) 16 (by omega) (by omega)
  rw [show ((c : Int) * 256) = ((c * 256 : Nat) : Int) by omega, h]
  omega
 have s3 : Go.bits .or .i64 (((a * 65536 + b * 256 + c) * 2 ^ 8 : Nat) : Int) (d : Int) = ((a * 16777216 + b * 65536 + c * 256 + d : Nat) : Int) := by
  have h := or_hi d (a * 65536 + b * 256 + c) 8 (by omega) (by omega)
  rw [h]
  omega
 rw [s1, s2, s3]
 omega
theorem fourAt_impl (t : ByteArray) (i : Int) (h0 : 0 ≤ i) (h1 : i + 4 ≤ (t.size : Int)) (hb : t.size ≤ 140737488351232) : impl_fourAt.f t i = some (fourV t i) := by
 unfold impl_fourAt.f
 rw [w64 (x := i + 1) (by omega) (by omega), w64 (x := i + 2) (by omega) (by omega), w64 (x := i + 3) (by omega) (by omega),
  if_pos (by omega), if_pos (by omega), if_pos (by omega), if_pos (by omega), if_pos (by omega), if_pos (by omega), if_pos (by omega), if_pos (by omega)]
 rfl
def dg (n : Nat) : ByteArray := ⟨#[UInt8.ofNat (48 + n % 10)]⟩
def decz (n : Nat) : ByteArray := if h : n = 0 then ⟨#[]⟩ else decz (n / 10) ++ dg n
 termination_by n
 decreasing_by omega
def dec (n : Nat) : ByteArray := if n = 0 then dg 0 else decz n
theorem dg_size (n : Nat) : (dg n).size = 1 := rfl
theorem decz_zero : decz 0 = ⟨#[]⟩ := by rw [decz]; rfl
theorem decz_step (n : Nat) (h : n ≠ 0) : decz n = decz (n / 10) ++ dg n := by rw [decz, dif_neg h]
theorem dec_small (n : Nat) (h : n < 10) : dec n = dg n := by
 unfold dec
 by_cases h0 : n = 0
 ·rw [if_pos h0, h0]
 ·rw [if_neg h0, decz_step n h0, show n / 10 = 0 by omega, decz_zero]
  exact ByteArray.empty_append
theorem dec_step (n : Nat) (h : 9 < n) : dec n = dec (n / 10) ++ dg n := by
 unfold dec
 rw [if_neg (by omega), if_neg (by omega), decz_step n (by omega)]
theorem dec_size_lt : ∀ (k n : Nat), 0 < k → n < 10 ^ k → (dec n).size ≤ k := by
 intro k
 induction k with
 | zero => intro n h; omega
 | succ k ih =>
  intro n _ hn
  by_cases h : n < 10
  ·rw [dec_small n h, dg_size]; omega
  ·rw [dec_step n (by omega), sizeApp, dg_size]
   have hk : 0 < k := by
    rcases Nat.eq_zero_or_pos k with h0 | h0
    ·subst h0; omega
    ·exact h0
   have := ih (n / 10) hk (by rw [Nat.pow_succ] at hn; omega)
   omega
theorem dec_size (n : Nat) (h : n ≤ 9223372036854775808) : (dec n).size ≤ 19 := dec_size_lt 19 n (by omega) (by omega)
theorem dg_of (x : Int) (h0 : 0 ≤ x) (h1 : x ≤ 9) : strOfNums [(48 + x) % 256] = dg x.toNat := by
 unfold strOfNums dg
 rw [show ((48 + x) % 256) = 48 + x by omega]
 simp only [List.map_cons, List.map_nil]
 rw [show (48 + x).toNat = 48 + x.toNat % 10 by omega]
theorem fig_at (d : Nat) (h : d < 10) : (⟨#[48, 49, 50, 51, 52, 53, 54, 55, 56, 57, 97, 98, 99, 100, 101, 102]⟩ : ByteArray).extract d (d + 1) = dg d := by
 have : d = 0 ∨ d = 1 ∨ d = 2 ∨ d = 3 ∨ d = 4 ∨ d = 5 ∨ d = 6 ∨ d = 7 ∨ d = 8 ∨ d = 9 := by omega
 rcases this with rfl | rfl | rfl | rfl | rfl | rfl | rfl | rfl | rfl | rfl <;> decide
def sgn (x : Int) (s : ByteArray) : ByteArray := if x < 0 then ⟨#[45]⟩ ++ s else s
theorem tmod_abs (m : Int) (h0 : -9223372036854775808 ≤ m) (h1 : m ≤ 9223372036854775807) : mx (Int.tmod m 10) (wrap64 (-(Int.tmod m 10))) = ((m.natAbs % 10 : Nat) : Int) := by
 rcases Int.natAbs_eq m with h | h
 ·rw [h, Int.tmod_eq_emod_of_nonneg (by omega), w64 (by omega) (by omega)]
  unfold mx
  split <;> omega
 ·rw [h, Int.neg_tmod, Int.tmod_eq_emod_of_nonneg (by omega), w64 (by omega) (by omega)]
  unfold mx
  split <;> omega
theorem tdiv_abs (m : Int) : (Int.tdiv m 10).natAbs = m.natAbs / 10 := by
 rw [Int.natAbs_tdiv]
 rfl
theorem ev_impl_dec : ∀ (j : Nat) (x m : Int) (out : ByteArray), m.natAbs < 10 ^ j → -9223372036854775808 ≤ m → m ≤ 9223372036854775807 → out.size + j ≤ 1000 →
 Ev (fun k => impl_Decimal.l0 k x out m) (sgn x (decz m.natAbs ++ out)) := by
 intro j
 induction j with
 | zero =>
  intro x m out hm h0 h1 hs
  refine evSucc ?_
  simp only [impl_Decimal.l0]
  obtain rfl : m = 0 := by rw [Nat.pow_zero] at hm; omega
  refine evPos rfl ?_
  rw [show (0 : Int).natAbs = 0 from rfl, decz_zero, show (⟨#[]⟩ : ByteArray) ++ out = out from ByteArray.empty_append]
  unfold sgn
  by_cases hx : x < 0
  ·exact evPos hx (evPos (by omega) (evEq (Ev.now _) (if_pos hx).symm))
  ·exact evNeg hx (evEq (Ev.now _) (if_neg hx).symm)
 | succ j ih =>
  intro x m out hm h0 h1 hs
  by_cases h : m = 0
  ·subst h
   exact ih x 0 out (Nat.pow_pos (by omega)) h0 h1 (by omega)
  ·refine evSucc ?_
   simp only [impl_Decimal.l0]
   refine evNeg h ?_
   rw [tmod_abs m h0 h1, w64 (x := ((m.natAbs % 10 : Nat) : Int) + 1) (by omega) (by omega)]
   refine evPos (by omega) (evPos (by omega) (evPos (by omega) ?_))
   rw [ci, Int.toNat_natCast, Int.toNat_natCast, fig_at _ (by omega)]
   rw [show dg (m.natAbs % 10) = dg m.natAbs by unfold dg; rw [Nat.mod_mod]]
   have ht := tdiv_abs m
   refine evPos (by rw [dg_size]; omega) ?_
   rw [w64 (by omega) (by omega)]
   have := ih x (Int.tdiv m 10) (dg m.natAbs ++ out) (by rw [ht, Nat.div_lt_iff_lt_mul (by omega), ← Nat.pow_succ]; exact hm) (by omega) (by omega) (by rw [sizeApp, dg_size]; omega)
   rw [ht, ← ByteArray.append_assoc, ← decz_step m.natAbs (by omega)] at this
   exact this
def decI (x : Int) : ByteArray := if x < 0 then ⟨#[45]⟩ ++ dec x.natAbs else dec x.natAbs
theorem ev_impl_Decimal (x : Int) (h0 : -9223372036854775808 ≤ x) (h1 : x ≤ 9223372036854775807) : Ev (fun k => impl_Decimal.f k x) (decI x) := by
 simp only [impl_Decimal.f]
 by_cases h : x = 0
 ·refine evPos h (evEq (Ev.now _) ?_)
  subst h
  rfl
 ·refine evNeg h (evEq (ev_impl_dec 19 x x _ (by omega) h0 h1 (by show 0 + 19 ≤ _; omega)) ?_)
  rw [show decz x.natAbs ++ (⟨#[]⟩ : ByteArray) = decz x.natAbs from ByteArray.append_empty]
  unfold sgn decI dec
  rw [if_neg (by omega : ¬ x.natAbs = 0)]
def halfB (n : Int) : Bool := decide (0 ≤ n) && decide (n ≤ 4294967295)
theorem impl_half (n : Int) : impl_HalfOk.f n = some (halfB n) := by
 unfold impl_HalfOk.f impl_within.f halfB
 by_cases h : n ≥ 0
 ·simp [h]
 ·simp [h]
  try omega
def wideB (w : S103) : Bool := halfB w.f0 && halfB w.f1
theorem impl_wide (w : S103) : impl_WideOk.f w.f0 w.f1 = some (wideB w) := by
 unfold impl_WideOk.f wideB
 rw [impl_half, impl_half]
 cases halfB w.f0 <;> simp
def callB (a b : Int) (l : List S103) : Bool := l.all wideB && (halfB a && (halfB b && (l.length == 3)))
theorem ev_impl_CallOk (a b : Int) (l : List S103) (hl : l.length ≤ 1048576) : Ev (fun k => impl_CallOk.f k a b l) (callB a b l) := by
 unfold callB
 by_cases hall : l.all wideB = true
 ·have key := evUp (r := (halfB a && (halfB b && (l.length == 3)))) l.length (fun i k => impl_CallOk.l0 k l (l.length : Int) (i : Int) a b l) ?_ ?_
  ·rw [hall]; exact key
  ·intro i hi ih
   refine evSucc ?_
   simp only [impl_CallOk.l0]
   refine evPos (by omega) (evPos (by omega) (evPos (by omega) ?_))
   rw [rdW l i hi, impl_wide, w64 (by omega) (by omega), ci]
   simp only [Option.bind_some]
   exact evPos (by simpa using List.all_eq_true.1 hall _ (List.getElem_mem hi)) ih
  ·refine evSucc ?_
   simp only [impl_CallOk.l0]
   refine evNeg (by omega) ?_
   rw [impl_half, impl_half]
   simp only [Option.bind_some]
   cases halfB a
   ·exact evNeg (by simp) (Ev.now _)
   ·refine evPos rfl ?_
    cases halfB b
    ·exact evNeg (by simp) (Ev.now _)
    ·refine evPos rfl (evEq (Ev.now _) ?_)
     simp only [Bool.true_and]
     rw [Bool.eq_iff_iff]
     simp
     try omega
 ·have h0 : l.all wideB = false := by simpa using hall
  rw [h0]
  obtain ⟨x, hx, hb⟩ := List.all_eq_false.1 h0
  obtain ⟨j, hj, rfl⟩ := List.getElem_of_mem hx
  have key : ∀ d i, i + d = j → Ev (fun k => impl_CallOk.l0 k l (l.length : Int) (i : Int) a b l) false := by
   intro d
   induction d with
   | zero =>
    intro i hi
    refine evSucc ?_
    simp only [impl_CallOk.l0]
    refine evPos (by omega) (evPos (by omega) (evPos (by omega) ?_))
    obtain rfl : i = j := by omega
    rw [rdW l i hj, impl_wide]
    simp only [Option.bind_some]
    exact evNeg (by simpa using hb) (Ev.now _)
   | succ d ih =>
    intro i hi
    refine evSucc ?_
    simp only [impl_CallOk.l0]
    have hi' : i < l.length := by omega
    refine evPos (by omega) (evPos (by omega) (evPos (by omega) ?_))
    rw [rdW l i hi', impl_wide, w64 (by omega) (by omega), ci]
    simp only [Option.bind_some]
    by_cases hw : wideB l[i] = true
    ·exact evPos hw (ih (i + 1) (by omega))
    ·exact evNeg hw (Ev.now _)
  exact key j 0 (by omega)
def figB (c : Int) : Bool := decide (48 ≤ c) && decide (c ≤ 57)
def figs (s : ByteArray) : Nat → Bool
 | 0 => true
 | i + 1 => figs s i && figB (bt s (i : Int))
def valN (s : ByteArray) : Nat → Int
 | 0 => 0
 | i + 1 => 10 * valN s i + (bt s (i : Int) - 48)
def numV (s : ByteArray) : Option Int := if 1 ≤ s.size ∧ s.size ≤ 10 ∧ figs s s.size = true ∧ ¬ (1 < s.size ∧ bt s 0 = 48) ∧ valN s s.size ≤ 4294967295 then some (valN s s.size) else none
theorem figB_iff (c : Int) : figB c = true ↔ 48 ≤ c ∧ c ≤ 57 := by unfold figB; rw [Bool.and_eq_true, decide_eq_true_eq, decide_eq_true_eq]
theorem figs_at (s : ByteArray) : ∀ n i, figs s n = true → i < n → figB (bt s (i : Int)) = true := by
 intro n
 induction n with
 | zero => intro i _ h; omega
 | succ n ih =>
  intro i h hi
  unfold figs at h
  rw [Bool.and_eq_true] at h
  by_cases e : i = n
  ·subst e; exact h.2
  ·exact ih i h.1 (by omega)
theorem figs_low (s : ByteArray) : ∀ d n, figs s (n + d) = true → figs s n = true := by
 intro d
 induction d with
 | zero => intro n h; exact h
 | succ d ih =>
  intro n h
  rw [show n + (d + 1) = (n + d) + 1 by omega] at h
  unfold figs at h
  rw [Bool.and_eq_true] at h
  exact ih n h.1
theorem valN_rng (s : ByteArray) : ∀ n, figs s n = true → 0 ≤ valN s n ∧ (valN s n).natAbs < 10 ^ n := by
 intro n
 induction n with
 | zero => intro _; exact ⟨Int.le_refl _, by show (0 : Int).natAbs < 10 ^ 0; decide⟩
 | succ n ih =>
  intro h
  have hb := (figB_iff _).1 (figs_at s (n + 1) n h (by omega))
  obtain ⟨h0, h1⟩ := ih (figs_low s 1 n h)
  unfold valN
  rw [Nat.pow_succ]
  omega
theorem valN_lead (s : ByteArray) (hz : bt s ((0 : Nat) : Int) = 48) : ∀ m, figs s (m + 1) = true → (valN s (m + 1)).natAbs < 10 ^ m := by
 intro m
 induction m with
 | zero => intro _; unfold valN valN; rw [hz]; decide
 | succ m ih =>
  intro h
  have hb := (figB_iff _).1 (figs_at s (m + 1 + 1) (m + 1) h (by omega))
  have hl := figs_low s 1 (m + 1) h
  have h1 := ih hl
  have h0 := (valN_rng s _ hl).1
  rw [valN.eq_def]
  simp only
  rw [Nat.pow_succ]
  omega
theorem valN_small (s : ByteArray) (n : Nat) (hn : n ≤ 10) (h : figs s n = true) : 0 ≤ valN s n ∧ valN s n < 10000000000 := by
 obtain ⟨h0, h1⟩ := valN_rng s n h
 have : 10 ^ n ≤ 10 ^ 10 := Nat.pow_le_pow_right (by omega) hn
 omega
theorem valN_pos (s : ByteArray) (hz : bt s ((0 : Nat) : Int) ≠ 48) : ∀ m, figs s (m + 1) = true → 1 ≤ valN s (m + 1) := by
 intro m
 induction m with
 | zero =>
  intro h
  have hb := (figB_iff _).1 (figs_at s (0 + 1) 0 h (by omega))
  unfold valN valN
  omega
 | succ m ih =>
  intro h
  have hb := (figB_iff _).1 (figs_at s (m + 1 + 1) (m + 1) h (by omega))
  have h1 := ih (figs_low s 1 (m + 1) h)
  rw [valN.eq_def]
  simp only
  omega
theorem dg_bt (s : ByteArray) (i : Nat) (hi : i < s.size) (hb : 48 ≤ bt s (i : Int) ∧ bt s (i : Int) ≤ 57) (v : Nat) : s.extract i (i + 1) = dg (10 * v + (bt s (i : Int) - 48).toNat) := by
 have h1 := dg_of (bt s (i : Int) - 48) (by omega) (by omega)
 rw [show (48 + (bt s (i : Int) - 48)) % 256 = bt s (i : Int) by omega] at h1
 rw [ext1 s i hi, h1]
 unfold dg
 rw [show (10 * v + (bt s (i : Int) - 48).toNat) % 10 = (bt s (i : Int) - 48).toNat % 10 by omega]
theorem dec_val (s : ByteArray) (hz : bt s ((0 : Nat) : Int) ≠ 48) : ∀ m, m + 1 ≤ s.size → figs s (m + 1) = true → dec (valN s (m + 1)).natAbs = s.extract 0 (m + 1) := by
 intro m
 induction m with
 | zero =>
  intro hm h
  have hb := (figB_iff _).1 (figs_at s (0 + 1) 0 h (by omega))
  have hv : (valN s (0 + 1)).natAbs = 10 * 0 + (bt s ((0 : Nat) : Int) - 48).toNat := by unfold valN valN; omega
  rw [hv, dec_small _ (by omega), ← dg_bt s 0 (by omega) hb 0]
 | succ m ih =>
  intro hm h
  have hb := (figB_iff _).1 (figs_at s (m + 1 + 1) (m + 1) h (by omega))
  have hl := figs_low s 1 (m + 1) h
  have hp := valN_pos s hz m hl
  have hv : (valN s (m + 1 + 1)).natAbs = 10 * (valN s (m + 1)).natAbs + (bt s ((m + 1 : Nat) : Int) - 48).toNat := by
   rw [valN.eq_def]
   simp only
   omega
  rw [hv, dec_step _ (by omega), show (10 * (valN s (m + 1)).natAbs + (bt s ((m + 1 : Nat) : Int) - 48).toNat) / 10 = (valN s (m + 1)).natAbs by omega, ih (by omega) hl, ← dg_bt s (m + 1) (by omega) hb _]
  exact extCat s 0 (m + 1) (m + 1 + 1) (by omega) (by omega)
theorem decI_val (s : ByteArray) (h1 : 1 ≤ s.size) (h2 : s.size ≤ 10) (hf : figs s s.size = true) : decI (valN s s.size) = s ↔ ¬ (1 < s.size ∧ bt s 0 = 48) := by
 obtain ⟨m, hm⟩ : ∃ m, s.size = m + 1 := ⟨s.size - 1, by omega⟩
 have h0 := (valN_rng s _ hf).1
 have hd : decI (valN s s.size) = dec (valN s s.size).natAbs := by unfold decI; rw [if_neg (by omega)]
 rw [hd]
 by_cases hz : bt s 0 = 48
 ·have hz' : bt s ((0 : Nat) : Int) = 48 := hz
  by_cases hs : 1 < s.size
  ·have hlt := valN_lead s hz' m (by rw [← hm]; exact hf)
   have hsz := dec_size_lt m _ (by omega) hlt
   refine ⟨fun e => ?_, fun n => absurd ⟨hs, hz⟩ n⟩
   rw [hm] at e
   rw [e] at hsz
   omega
  ·obtain rfl : m = 0 := by omega
   refine ⟨fun _ n => hs n.1, fun _ => ?_⟩
   have hb := (figB_iff _).1 (figs_at s s.size 0 hf (by omega))
   have hv : (valN s s.size).natAbs = 10 * 0 + (bt s ((0 : Nat) : Int) - 48).toNat := by rw [hm]; unfold valN valN; omega
   rw [hv, dec_small _ (by omega), ← dg_bt s 0 (by omega) hb 0]
   have := extAll s
   rw [hm] at this
   exact this
 ·refine ⟨fun _ n => hz n.2, fun _ => ?_⟩
  have hz' : bt s ((0 : Nat) : Int) ≠ 48 := hz
  have := dec_val s hz' m (by omega) (by rw [← hm]; exact hf)
  rw [← hm] at this
  rw [this]
  exact extAll s
def EvN (g : Nat → Option (Int × Bool)) (o : Option Int) : Prop := ∃ n ok, Ev g (n, ok) ∧ (∀ v, o = some v → n = v ∧ ok = true) ∧ (o = none → ok = false)
theorem figs_false (s : ByteArray) {i : Nat} (hi : i < s.size) (h : figB (bt s (i : Int)) = false) : figs s s.size = false := by
 cases hf : figs s s.size
 ·rfl
 ·rw [figs_at s s.size i hf hi] at h; cases h
theorem numV_half {s : ByteArray} {v : Int} (h : numV s = some v) : halfB v = true := by
 unfold numV at h
 split at h
 ·rename_i hc
  obtain rfl := Option.some.inj h
  have := (valN_rng s _ hc.2.2.1).1
  unfold halfB
  rw [Bool.and_eq_true, decide_eq_true_eq, decide_eq_true_eq]
  omega
 ·cases h
theorem within_f (x a b : Int) : impl_within.f x a b = some (decide (a ≤ x) && decide (x ≤ b)) := by
 unfold impl_within.f
 by_cases h : x ≥ a
 ·rw [if_pos h, decide_eq_true (show a ≤ x from h), Bool.true_and]
 ·rw [if_neg h, decide_eq_false (show ¬ a ≤ x from h), Bool.false_and]
theorem runOf_law (s : ByteArray) (hs : s.size ≤ 10) : ∃ j : Int, Ev (fun k => impl_runOf.f k s 0 159) j ∧ (j = s.size ↔ figs s s.size = true) := by
 have key : ∀ d i, i + d = s.size → figs s i = true → ∃ j : Int, Ev (fun k => impl_runOf.l0 k s 159 (i : Int)) j ∧ (j = s.size ↔ figs s s.size = true) := by
  intro d
  induction d with
  | zero =>
   intro i hi hf
   refine ⟨(i : Int), evSucc ?_, ?_⟩
   ·simp only [impl_runOf.l0]
    exact evNeg (by omega) (Ev.now _)
   ·obtain rfl : i = s.size := by omega
    exact ⟨fun _ => hf, fun _ => rfl⟩
  | succ d ih =>
   intro i hi hf
   cases hb : figB (bt s (i : Int))
   ·refine ⟨(i : Int), evSucc ?_, ?_⟩
    ·simp only [impl_runOf.l0, impl_runOf.is, if_true, Option.bind_some]
     refine evPos (by omega) (evPos (by omega) (evNeg ?_ (Ev.now _)))
     unfold figB at hb
     rw [hb]; decide
    ·rw [figs_false s (by omega) hb]
     exact ⟨fun e => by omega, fun e => by cases e⟩
   ·obtain ⟨j, e, hj⟩ := ih (i + 1) (by omega) (by unfold figs; rw [hf, hb]; rfl)
    refine ⟨j, evSucc ?_, hj⟩
    simp only [impl_runOf.l0, impl_runOf.is, if_true, Option.bind_some]
    refine evPos (by omega) (evPos (by omega) (evPos ?_ ?_))
    ·unfold figB at hb; exact hb
    ·rw [w64 (by omega) (by omega), ci]; exact e
 exact key s.size 0 (by omega) rfl
theorem ev_impl_num (s : ByteArray) : EvN (fun k => impl_half.f k s) (numV s) := by
 simp only [impl_half.f]
 rw [within_f]
 by_cases hin : 1 ≤ s.size ∧ s.size ≤ 10
 ·obtain ⟨h1, h2⟩ := hin
  have hw : (decide ((1 : Int) ≤ (s.size : Int)) && decide ((s.size : Int) ≤ 10)) = true := by rw [Bool.and_eq_true, decide_eq_true_eq, decide_eq_true_eq]; omega
  rw [hw]
  obtain ⟨j, ej, hj⟩ := runOf_law s h2
  cases hf : figs s s.size
  ·have hne : j ≠ s.size := fun e => by have := hj.1 e; rw [hf] at this; cases this
   refine ⟨0, false, evBindS rfl (evPos rfl (Ev.bind ej (evSucc ?_))), ?_, fun _ => rfl⟩
   ·simp only [impl_half.j0]
    exact evPos (bne_iff_ne.2 hne) (Ev.now _)
   ·intro v hv
    unfold numV at hv
    rw [if_neg (fun c => by rw [hf] at c; exact Bool.noConfusion c.2.2.1)] at hv
    cases hv
  ·have he : j = s.size := hj.2 hf
   subst he
   obtain ⟨v0, v1⟩ := valN_small s s.size h2 hf
   have hloop : Ev (fun k => impl_half.l0 k s 0 0) (if decide (valN s s.size ≤ 4294967295) && (decI (valN s s.size)).toList == s.toList then (valN s s.size, true) else (0, false)) := by
    have key := evUp (r := if decide (valN s s.size ≤ 4294967295) && (decI (valN s s.size)).toList == s.toList then (valN s s.size, true) else (0, false)) s.size (fun i k => impl_half.l0 k s (valN s i) (i : Int)) ?_ ?_
    ·exact key
    ·intro i hi ih
     have hb := (figB_iff _).1 (figs_at s s.size i hf hi)
     have hvi := valN_small s i (by omega) (figs_low s (s.size - i) i (by rw [show i + (s.size - i) = s.size by omega]; exact hf))
     refine evSucc ?_
     simp only [impl_half.l0]
     refine evPos (by omega) (evPos (by omega) ?_)
     rw [w64 (x := 10 * valN s i) (by omega) (by omega), show (bt s (i : Int) - 48) % 256 = bt s (i : Int) - 48 by omega, w64 (x := 10 * valN s i + (bt s (i : Int) - 48)) (by omega) (by omega), w64 (by omega) (by omega), ci]
     exact ih
    ·refine evSucc ?_
     simp only [impl_half.l0]
     refine evNeg (by omega) ?_
     rw [impl_half]
     simp only [Option.bind_some]
     by_cases hle : valN s s.size ≤ 4294967295
     ·have hh : halfB (valN s s.size) = true := by unfold halfB; rw [Bool.and_eq_true, decide_eq_true_eq, decide_eq_true_eq]; omega
      rw [hh, decide_eq_true hle, Bool.true_and]
      refine evPos rfl (Ev.bind (ev_impl_Decimal _ (by omega) (by omega)) ?_)
      by_cases hq : (decI (valN s s.size)).toList = s.toList
      ·exact evPos hq (evEq (Ev.now _) (if_pos (beq_iff_eq.2 hq)).symm)
      ·exact evNeg hq (evEq (Ev.now _) (if_neg (fun c => hq (beq_iff_eq.1 c))).symm)
     ·have hh : halfB (valN s s.size) = false := by unfold halfB; rw [decide_eq_false hle, Bool.and_false]
      rw [hh, decide_eq_false hle, Bool.false_and]
      exact evNeg (by simp) (evEq (Ev.now _) (if_neg (by simp)).symm)
   have hq : ((decI (valN s s.size)).toList == s.toList) = decide (¬ (1 < s.size ∧ bt s 0 = 48)) := by
    rw [Bool.eq_iff_iff, beq_iff_eq, decide_eq_true_eq, ← decI_val s h1 h2 hf]
    exact ⟨fun e => toList_inj e, fun e => by rw [e]⟩
   by_cases hc : valN s s.size ≤ 4294967295 ∧ ¬ (1 < s.size ∧ bt s 0 = 48)
   ·refine ⟨valN s s.size, true, evBindS rfl (evPos rfl (Ev.bind ej (evSucc ?_))), ?_, ?_⟩
    ·simp only [impl_half.j0]
     refine evNeg (by simp) (evEq hloop (if_pos ?_))
     rw [hq, Bool.and_eq_true, decide_eq_true_eq, decide_eq_true_eq]
     exact hc
    ·intro v hv
     unfold numV at hv
     rw [if_pos ⟨h1, h2, hf, hc.2, hc.1⟩] at hv
     exact ⟨Option.some.inj hv, rfl⟩
    ·intro hv
     unfold numV at hv
     rw [if_pos ⟨h1, h2, hf, hc.2, hc.1⟩] at hv
     cases hv
   ·refine ⟨0, false, evBindS rfl (evPos rfl (Ev.bind ej (evSucc ?_))), ?_, fun _ => rfl⟩
    ·simp only [impl_half.j0]
     refine evNeg (by simp) (evEq hloop (if_neg ?_))
     rw [hq, Bool.and_eq_true, decide_eq_true_eq, decide_eq_true_eq]
     exact hc
    ·intro v hv
     unfold numV at hv
     rw [if_neg (fun c => hc ⟨c.2.2.2.2, c.2.2.2.1⟩)] at hv
     cases hv
 ·have hw : (decide ((1 : Int) ≤ (s.size : Int)) && decide ((s.size : Int) ≤ 10)) = false := by
   rw [Bool.and_eq_false_iff, decide_eq_false_iff_not, decide_eq_false_iff_not]; omega
  rw [hw]
  refine ⟨0, false, evBindS rfl (evNeg (by simp) (evSucc ?_)), ?_, fun _ => rfl⟩
  ·simp only [impl_half.j0]
   exact evPos trivial (Ev.now _)
  ·intro v hv
   unfold numV at hv
   rw [if_neg (fun c => hin ⟨c.1, c.2.1⟩)] at hv
   cases hv
theorem one48 (s : ByteArray) (i : Nat) : wrap64 (bt s (i : Int)) = bt s (i : Int) := by
 have := bt_range s (i : Int)
 exact w64 (by omega) (by omega)
def prB (c : Int) : Bool := decide (32 ≤ c) && decide (c ≤ 126)
def partsR (s : ByteArray) : Nat → Nat → Nat → List ByteArray → List ByteArray × Bool
 | 0, _, _, out => if 10 < out.length then ([], false) else (out, true)
 | d + 1, i, b, out =>
  if i < s.size ∧ prB (bt s (i : Int)) = false then ([], false)
  else if i < s.size ∧ bt s (i : Int) ≠ 32 then partsR s d (i + 1) b out
  else if b < i then partsR s d (i + 1) (i + 1) (out ++ [s.extract b i]) else partsR s d (i + 1) (i + 1) out
def partsB (s : ByteArray) : List ByteArray × Bool := if 600 < s.size then ([], false) else partsR s (s.size + 1) 0 0 []
theorem partsR_le (s : ByteArray) : ∀ d i b out, (∀ x ∈ out, x.size ≤ s.size) → ∀ x ∈ (partsR s d i b out).1, x.size ≤ s.size := by
 intro d
 induction d with
 | zero =>
  intro i b out h x hx
  unfold partsR at hx
  split at hx
  ·cases hx
  ·exact h x hx
 | succ d ih =>
  intro i b out h x hx
  unfold partsR at hx
  split at hx
  ·cases hx
  ·split at hx
   ·exact ih _ _ _ h x hx
   ·split at hx
    ·refine ih _ _ _ (fun y hy => ?_) x hx
     rcases List.mem_append.1 hy with hy | hy
     ·exact h y hy
     ·rw [List.mem_singleton] at hy
      subst hy
      rw [ByteArray.size_extract]
      omega
    ·exact ih _ _ _ h x hx
theorem partsB_le (s : ByteArray) : ∀ x ∈ (partsB s).1, x.size ≤ 600 := by
 unfold partsB
 split
 ·intro x hx; cases hx
 ·intro x hx
  have := partsR_le s _ _ _ [] (fun y hy => by cases hy) x hx
  omega
theorem ev_impl_partsR (s : ByteArray) (hs : s.size ≤ 600) : ∀ d i b (f : Int) out, i + d = s.size + 1 → (f = -1 ∧ b = i) ∨ (f = (b : Int) ∧ b < i) → out.length ≤ i → Ev (fun k => impl_PartsOf.l0 k s out f (i : Int)) (partsR s d i b out) := by
 intro d
 induction d with
 | zero =>
  intro i b f out hi hb ho
  refine evSucc ?_
  simp only [impl_PartsOf.l0]
  refine evNeg (by omega) ?_
  by_cases h : 10 < out.length
  ·exact evPos (by omega) (evEq (Ev.now _) (if_pos h).symm)
  ·exact evNeg (by omega) (evEq (Ev.now _) (if_neg h).symm)
 | succ d ih =>
  intro i b f out hi hb ho
  have blank : ¬ (i < s.size ∧ prB (bt s (i : Int)) = false) → ¬ (i < s.size ∧ bt s (i : Int) ≠ 32) → Ev (fun k => impl_PartsOf.j2 k s out f (i : Int) true) (partsR s (d + 1) i b out) := by
   intro h1 h2
   refine evSucc ?_
   simp only [impl_PartsOf.j2]
   refine evPos trivial (evSucc ?_)
   simp only [impl_PartsOf.j3]
   refine evNeg (by simp) (evPos trivial ?_)
   unfold partsR
   rw [if_neg h1, if_neg h2]
   rcases hb with ⟨rfl, rfl⟩ | ⟨rfl, hbi⟩
   ·rw [if_neg (Nat.lt_irrefl _)]
    refine evNeg (by omega) ?_
    rw [w64 (by omega) (by omega), ci]
    exact ih (b + 1) (b + 1) (-1) _ (by omega) (Or.inl ⟨rfl, rfl⟩) (by omega)
   ·rw [if_pos hbi]
    refine evPos (by omega) (evPos (by omega) (evPos (by omega) (evPos (by omega) (evPos (by omega) ?_))))
    rw [Int.toNat_natCast, Int.toNat_natCast, w64 (by omega) (by omega), ci]
    exact ih (i + 1) (i + 1) (-1) _ (by omega) (Or.inl ⟨rfl, rfl⟩) (by rw [List.length_append, List.length_singleton]; omega)
  refine evSucc ?_
  simp only [impl_PartsOf.l0]
  refine evPos (by omega) ?_
  by_cases hlt : i < s.size
  ·refine evPos (by omega) (evPos (by omega) ?_)
   rw [one48, within_f]
   refine evBindS rfl (evSucc ?_)
   simp only [impl_PartsOf.j1]
   by_cases hp : prB (bt s (i : Int)) = true
   ·have hpe : (decide (32 ≤ bt s (i : Int)) && decide (bt s (i : Int) ≤ 126)) = true := hp
    rw [hpe]
    refine evNeg (by simp) (evNeg (by omega) (evPos (by omega) (evPos (by omega) ?_)))
    by_cases h32 : bt s (i : Int) = 32
    ·rw [show (bt s (i : Int) == 32) = true from beq_iff_eq.2 h32]
     exact blank (fun z => by rw [hp] at z; cases z.2) (fun z => z.2 h32)
    ·rw [show (bt s (i : Int) == 32) = false from beq_eq_false_iff_ne.2 h32]
     refine evSucc ?_
     simp only [impl_PartsOf.j2]
     refine evNeg (by simp) (evSucc ?_)
     simp only [impl_PartsOf.j3]
     unfold partsR
     rw [if_neg (fun z => by rw [hp] at z; cases z.2), if_pos ⟨hlt, h32⟩]
     rcases hb with ⟨rfl, rfl⟩ | ⟨rfl, hbi⟩
     ·refine evPos (by decide) (evNeg (by simp) ?_)
      rw [w64 (by omega) (by omega), ci]
      exact ih (b + 1) b _ _ (by omega) (Or.inr ⟨rfl, by omega⟩) (by omega)
     ·refine evNeg (by rw [decide_eq_true_eq]; omega) (evNeg (by simp) ?_)
      rw [w64 (by omega) (by omega), ci]
      exact ih (i + 1) b _ _ (by omega) (Or.inr ⟨rfl, by omega⟩) (by omega)
   ·have hp0 : prB (bt s (i : Int)) = false := by simpa using hp
    have hpe : (decide (32 ≤ bt s (i : Int)) && decide (bt s (i : Int) ≤ 126)) = false := hp0
    rw [hpe]
    have hr : partsR s (d + 1) i b out = ([], false) := by unfold partsR; rw [if_pos ⟨hlt, hp0⟩]
    rw [hr]
    exact evPos rfl (Ev.now _)
  ·refine evNeg (by omega) (evSucc ?_)
   simp only [impl_PartsOf.j1]
   refine evNeg (by simp) (evPos (by omega) ?_)
   exact blank (fun z => hlt z.1) (fun z => hlt z.1)
theorem ev_impl_PartsOf (s : ByteArray) : Ev (fun k => impl_PartsOf.f k s) (partsB s) := by
 simp only [impl_PartsOf.f]
 unfold partsB
 by_cases h : 600 < s.size
 ·exact evPos (by omega) (evEq (Ev.now _) (if_pos h).symm)
 ·refine evNeg (by omega) (evEq (ev_impl_partsR s (by omega) (s.size + 1) 0 0 (-1) [] (by omega) (Or.inl ⟨rfl, rfl⟩) (by show (0 : Nat) ≤ _; omega)) (if_neg h).symm)
theorem rdS (l : List ByteArray) (i : Nat) (hi : i < l.length) : rdOf ByteArray.empty l (i : Int) = l[i] := by simp [rdOf, hi]
theorem spec_half (n : Int) : spec_HalfOk.f n = some (halfB n) := by
 unfold spec_HalfOk.f spec_l01In.f halfB
 by_cases h : n ≥ 0
 ·simp [h]
 ·simp [h]
  try omega
theorem spec_wide (w : S103) : spec_WideOk.f w.f0 w.f1 = some (wideB w) := by
 unfold spec_WideOk.f wideB
 rw [spec_half, spec_half]
 cases halfB w.f0 <;> simp
theorem ev_spec_CallOk (a b : Int) (l : List S103) (hl : l.length ≤ 1048576) : Ev (fun k => spec_CallOk.f k a b l) (callB a b l) := by
 unfold callB
 by_cases hall : l.all wideB = true
 ·have key := evUp (r := (halfB a && (halfB b && (l.length == 3)))) l.length (fun i k => spec_CallOk.l0 k (i : Int) a b l) ?_ ?_
  ·rw [hall]; exact key
  ·intro i hi ih
   refine evSucc ?_
   simp only [spec_CallOk.l0]
   refine evPos (by omega) (evPos (by omega) ?_)
   rw [rdW l i hi, spec_wide, w64 (by omega) (by omega), ci]
   simp only [Option.bind_some]
   exact evPos (by simpa using List.all_eq_true.1 hall _ (List.getElem_mem hi)) ih
  ·refine evSucc ?_
   simp only [spec_CallOk.l0]
   refine evNeg (by omega) ?_
   rw [spec_half, spec_half]
   simp only [Option.bind_some]
   cases halfB a
   ·exact evNeg (by simp) (Ev.now _)
   ·refine evPos rfl ?_
    cases halfB b
    ·exact evNeg (by simp) (Ev.now _)
    ·refine evPos rfl (evEq (Ev.now _) ?_)
     simp only [Bool.true_and]
     rw [Bool.eq_iff_iff]
     simp
     try omega
 ·have h0 : l.all wideB = false := by simpa using hall
  rw [h0]
  obtain ⟨x, hx, hb⟩ := List.all_eq_false.1 h0
  obtain ⟨j, hj, rfl⟩ := List.getElem_of_mem hx
  have key : ∀ d i, i + d = j → Ev (fun k => spec_CallOk.l0 k (i : Int) a b l) false := by
   intro d
   induction d with
   | zero =>
    intro i hi
    refine evSucc ?_
    simp only [spec_CallOk.l0]
    refine evPos (by omega) (evPos (by omega) ?_)
    obtain rfl : i = j := by omega
    rw [rdW l i hj, spec_wide]
    simp only [Option.bind_some]
    exact evNeg (by simpa using hb) (Ev.now _)
   | succ d ih =>
    intro i hi
    refine evSucc ?_
    simp only [spec_CallOk.l0]
    have hi' : i < l.length := by omega
    refine evPos (by omega) (evPos (by omega) ?_)
    rw [rdW l i hi', spec_wide, w64 (by omega) (by omega), ci]
    simp only [Option.bind_some]
    by_cases hw : wideB l[i] = true
    ·exact evPos hw (ih (i + 1) (by omega))
    ·exact evNeg hw (Ev.now _)
  exact key j 0 (by omega)
def namesL : List ByteArray := (impl_CallNames.f).getD []
def srch (x : ByteArray) : List ByteArray → Int → Int
 | [], _ => -1
 | y :: l, i => if y.toList = x.toList then i else srch x l (i + 1)
theorem srch_rng (x : ByteArray) : ∀ l i, 0 ≤ i → srch x l i = -1 ∨ (i ≤ srch x l i ∧ srch x l i < i + (l.length : Int)) := by
 intro l
 induction l with
 | nil => intro i _; exact Or.inl rfl
 | cons y l ih =>
  intro i h
  unfold srch
  rw [List.length_cons]
  split
  ·exact Or.inr (by omega)
  ·rcases ih (i + 1) (by omega) with e | e
   ·exact Or.inl e
   ·exact Or.inr (by omega)
theorem namesL_len : namesL.length = 12 := rfl
theorem ev_impl_CallNumber (x : ByteArray) : Ev (fun k => impl_CallNumber.f k x) (srch x namesL 0) := by
 simp only [impl_CallNumber.f]
 refine evBindS (show impl_CallNames.f = some namesL from rfl) ?_
 have key : ∀ d i, i + d = namesL.length → Ev (fun k => impl_CallNumber.l0 k x namesL (namesL.length : Int) (i : Int)) (srch x (namesL.drop i) (i : Int)) := by
  intro d
  induction d with
  | zero =>
   intro i hi
   refine evSucc ?_
   simp only [impl_CallNumber.l0]
   rw [List.drop_of_length_le (by omega)]
   exact evNeg (by omega) (Ev.now _)
  | succ d ih =>
   intro i hi
   have hlt : i < namesL.length := by omega
   have hl := namesL_len
   refine evSucc ?_
   simp only [impl_CallNumber.l0]
   refine evPos (by omega) (evPos (by omega) (evPos (by omega) ?_))
   rw [rdS namesL i hlt, w64 (by omega) (by omega), ci, List.drop_eq_getElem_cons hlt]
   unfold srch
   by_cases hc : namesL[i].toList = x.toList
   ·exact evPos hc (evEq (Ev.now _) (if_pos hc).symm)
   ·exact evNeg hc (evEq (ih (i + 1) (by omega)) (if_neg hc).symm)
 exact key namesL.length 0 (by omega)
def wideR (s : ByteArray) : Nat → Nat → Option S103
 | 0, _ => (numV s).map (fun lo => ⟨0, lo⟩)
 | d + 1, i => if bt s (i : Int) = 58 then (numV (s.extract 0 i)).bind (fun hi => (numV (s.extract (i + 1) s.size)).map (fun lo => ⟨hi, lo⟩)) else wideR s d (i + 1)
theorem wideR_ok (s : ByteArray) : ∀ d i w, wideR s d i = some w → wideB w = true := by
 intro d
 induction d with
 | zero =>
  intro i w h
  unfold wideR at h
  cases hn : numV s with
  | none => rw [hn] at h; cases h
  | some v =>
   rw [hn] at h
   obtain rfl := Option.some.inj h
   unfold wideB
   rw [numV_half hn]
   rfl
 | succ d ih =>
  intro i w h
  unfold wideR at h
  split at h
  ·cases h1 : numV (s.extract 0 i) with
   | none => rw [h1] at h; cases h
   | some v =>
    cases h2 : numV (s.extract (i + 1) s.size) with
    | none => rw [h1, h2] at h; cases h
    | some u =>
     rw [h1, h2] at h
     obtain rfl := Option.some.inj h
     unfold wideB
     rw [numV_half h1, numV_half h2]
     rfl
  ·exact ih _ _ h
def EvW (g : Nat → Option (Int × Int × Bool)) (o : Option S103) : Prop := ∃ a b ok, Ev g (a, b, ok) ∧ (∀ w, o = some w → (⟨a, b⟩ : S103) = w ∧ ok = true) ∧ (o = none → ok = false)
theorem wideOf_zero {g : Nat → Option (Int × Bool)} {o : Option Int} (h : EvN g o) : EvW (fun k => (g k).bind fun b => some (0, b.1, b.2)) (o.map (fun lo => ⟨0, lo⟩)) := by
 obtain ⟨n, ok, e, p1, p2⟩ := h
 refine ⟨0, n, ok, Ev.bind e (Ev.now _), ?_, ?_⟩
 ·intro w hw
  cases o with
  | none => cases hw
  | some v =>
   obtain ⟨rfl, rfl⟩ := p1 v rfl
   exact ⟨Option.some.inj hw, rfl⟩
 ·intro hw
  cases o with
  | none => exact p2 rfl
  | some v => cases hw
theorem wideOf_two {g f : Nat → Option (Int × Bool)} {o q : Option Int} (h : EvN g o) (h' : EvN f q) : EvW (fun k => (g k).bind fun b => (f k).bind fun c => if b.2 = true then some (b.1, c.1, c.2) else some (b.1, c.1, false)) (o.bind (fun hi => q.map (fun lo => ⟨hi, lo⟩))) := by
 obtain ⟨n, ok, e, p1, p2⟩ := h
 obtain ⟨m, ok', e', q1, q2⟩ := h'
 cases o with
 | none =>
  obtain rfl := p2 rfl
  refine ⟨n, m, false, Ev.bind e (Ev.bind e' (evNeg (by simp) (Ev.now _))), ?_, fun _ => rfl⟩
  intro w hw
  cases hw
 | some v =>
  obtain ⟨rfl, rfl⟩ := p1 v rfl
  refine ⟨n, m, ok', Ev.bind e (Ev.bind e' (evPos rfl (Ev.now _))), ?_, ?_⟩
  ·intro w hw
   cases q with
   | none => cases hw
   | some u =>
    obtain ⟨rfl, rfl⟩ := q1 u rfl
    exact ⟨Option.some.inj hw, rfl⟩
  ·intro hw
   cases q with
   | none => exact q2 rfl
   | some u => cases hw
theorem EvW.of {g f : Nat → Option (Int × Int × Bool)} {o : Option S103} (h : ∀ r, Ev f r → Ev g r) (e : EvW f o) : EvW g o := by
 obtain ⟨a, b, ok, e, p⟩ := e
 exact ⟨a, b, ok, h _ e, p⟩
theorem ev_impl_wide (s : ByteArray) (hs : s.size ≤ 600) : EvW (fun k => impl_wideOf.f k s) (wideR s s.size 0) := by
 have key : ∀ d i, i + d = s.size → EvW (fun k => impl_wideOf.l0 k s (i : Int)) (wideR s d i) := by
  intro d
  induction d with
  | zero =>
   intro i hi
   refine EvW.of (fun r e => evSucc ?_) (wideOf_zero (ev_impl_num s))
   simp only [impl_wideOf.l0]
   exact evNeg (by omega) e
  | succ d ih =>
   intro i hi
   unfold wideR
   by_cases hc : bt s (i : Int) = 58
   ·rw [if_pos hc]
    refine EvW.of (fun r e => evSucc ?_) (wideOf_two (ev_impl_num (s.extract 0 i)) (ev_impl_num (s.extract (i + 1) s.size)))
    simp only [impl_wideOf.l0]
    refine evPos (by omega) (evPos (by omega) (evPos hc (evPos (by omega) ?_)))
    rw [w64 (by omega) (by omega), ci, Int.toNat_natCast, Int.toNat_natCast]
    refine Ev.congr (fun k => congrArg (Option.bind _) (funext fun b => ?_)) e
    rw [if_pos (by omega), if_pos (by omega)]
   ·rw [if_neg hc]
    refine EvW.of (fun r e => evSucc ?_) (ih (i + 1) (by omega))
    simp only [impl_wideOf.l0]
    refine evPos (by omega) (evPos (by omega) (evNeg hc ?_))
    rw [w64 (by omega) (by omega), ci]
    exact e
 exact key s.size 0 (by omega)
abbrev CallR := Int × Int × List S103 × Bool
def noCall : CallR := (0, 0, [], false)
def goW (arch n : Int) (ok : Bool) : List ByteArray → List S103 → CallR
 | [], acc => if ok = true then (arch, n, acc ++ List.replicate (3 - acc.length) z103, true) else noCall
 | t :: l, acc => match wideR t t.size 0 with
  | none => noCall
  | some w => goW arch n ok l (acc ++ [w])
theorem fillW (acc : List S103) (w : S103) (h : acc.length < 3) : (acc ++ List.replicate (3 - acc.length) z103).set acc.length w = (acc ++ [w]) ++ List.replicate (3 - (acc ++ [w]).length) z103 := by
 rw [List.set_append_right _ _ (Nat.le_refl _), Nat.sub_self, List.length_append, List.length_singleton, show 3 - acc.length = (3 - (acc.length + 1)) + 1 by omega, List.replicate_succ, List.set_cons_zero, List.append_assoc]
 rfl
theorem fillLen (acc : List S103) (h : acc.length ≤ 3) : (acc ++ List.replicate (3 - acc.length) z103).length = 3 := by
 rw [List.length_append, List.length_replicate]; omega
theorem zwide_ok : wideB z103 = true := by decide
theorem callB_fill (arch n : Int) (acc : List S103) (h : acc.length ≤ 3) (hn : halfB n = true) (ha : acc.all wideB = true) : callB arch n (acc ++ List.replicate (3 - acc.length) z103) = halfB arch := by
 unfold callB
 have h1 : (acc ++ List.replicate (3 - acc.length) z103).all wideB = true := by
  rw [List.all_append, ha, Bool.true_and]
  exact List.all_eq_true.2 (fun x hx => by rw [List.eq_of_mem_replicate hx]; exact zwide_ok)
 rw [h1, hn, fillLen acc h]
 simp
theorem ev_impl_goW (arch n : Int) (hn : halfB n = true) (q : List ByteArray) (hq : ∀ x ∈ q, x.size ≤ 600) (hl : q.length ≤ 3) : ∀ d i acc, i + d = q.length → acc.length = i → acc.all wideB = true → Ev (fun k => impl_ReadCallLine.l0 k q (q.length : Int) (i : Int) arch n (acc ++ List.replicate (3 - acc.length) z103)) (goW arch n (halfB arch) (q.drop i) acc) := by
 intro d
 induction d with
 | zero =>
  intro i acc hi ha hb
  refine evSucc ?_
  simp only [impl_ReadCallLine.l0]
  rw [List.drop_of_length_le (by omega)]
  refine evNeg (by omega) ?_
  have hc := ev_impl_CallOk arch n (acc ++ List.replicate (3 - acc.length) z103) (by rw [fillLen acc (by omega)]; omega)
  rw [callB_fill arch n acc (by omega) hn hb] at hc
  refine Ev.bind hc ?_
  unfold goW
  by_cases h : halfB arch = true
  ·exact evPos h (evEq (Ev.now _) (if_pos h).symm)
  ·exact evNeg h (evEq (Ev.now _) (if_neg h).symm)
 | succ d ih =>
  intro i acc hi ha hb
  have hlt : i < q.length := by omega
  obtain ⟨a, b, ok, e, q1, q2⟩ := ev_impl_wide q[i] (hq _ (List.getElem_mem hlt))
  refine evSucc ?_
  simp only [impl_ReadCallLine.l0]
  refine evPos (by omega) (evPos (by omega) (evPos (by omega) ?_))
  rw [rdS q i hlt, List.drop_eq_getElem_cons hlt]
  refine Ev.bind e ?_
  unfold goW
  cases hw : wideR q[i] q[i].size 0 with
  | none =>
   obtain rfl := q2 hw
   exact evNeg (by simp) (Ev.now _)
  | some w =>
   obtain ⟨hww, rfl⟩ := q1 w hw
   refine evPos rfl (evPos (by rw [fillLen acc (by omega)]; omega) ?_)
   rw [Int.toNat_natCast, ← ha, fillW acc _ (by omega), w64 (by omega) (by omega), ci]
   rw [show (⟨a, b⟩ : S103) = w from hww]
   exact ih (acc.length + 1) (acc ++ [w]) (by omega) (by rw [List.length_append, List.length_singleton]) (by rw [List.all_append, hb, List.all_cons, wideR_ok _ _ _ _ hw]; rfl)
def headNum (x : ByteArray) : Option Int := if srch x namesL 0 < 0 then numV x else some (srch x namesL 0)
theorem headNum_half {x : ByteArray} {n : Int} (h : headNum x = some n) : halfB n = true := by
 unfold headNum at h
 split at h
 ·exact numV_half h
 ·rename_i hc
  obtain rfl := Option.some.inj h
  rcases srch_rng x namesL 0 (by omega) with e | ⟨e1, e2⟩
  ·omega
  ·rw [namesL_len] at e2
   unfold halfB
   rw [Bool.and_eq_true, decide_eq_true_eq, decide_eq_true_eq]
   omega
def rcl (arch : Int) (s : ByteArray) : CallR :=
 if (partsB s).2 = true ∧ 1 ≤ (partsB s).1.length ∧ (partsB s).1.length ≤ 4 then
  match headNum (rdOf ByteArray.empty (partsB s).1 0) with
  | none => noCall
  | some n => goW arch n (halfB arch) ((partsB s).1.drop 1) []
 else noCall
theorem ev_impl_ReadCallLine (arch : Int) (s : ByteArray) : Ev (fun k => impl_ReadCallLine.f k arch s) (rcl arch s) := by
 have hle := partsB_le s
 simp only [impl_ReadCallLine.f]
 refine Ev.bind (ev_impl_PartsOf s) ?_
 have bad : Ev (fun k => impl_ReadCallLine.j0 k arch (partsB s).1 true) noCall := by
  refine evSucc ?_
  simp only [impl_ReadCallLine.j0]
  exact evPos trivial (Ev.now _)
 unfold rcl
 by_cases h2 : (partsB s).2 = true
 ·refine evPos h2 ?_
  rw [within_f]
  refine evBindS rfl ?_
  by_cases h3 : 1 ≤ (partsB s).1.length ∧ (partsB s).1.length ≤ 4
  ·rw [show (decide (1 ≤ ((partsB s).1.length : Int)) && decide (((partsB s).1.length : Int) ≤ 4)) = true by rw [Bool.and_eq_true, decide_eq_true_eq, decide_eq_true_eq]; omega, if_pos ⟨h2, h3⟩]
   refine evSucc ?_
   simp only [impl_ReadCallLine.j0]
   refine evNeg (by simp) (evPos (by omega) (Ev.bind (ev_impl_CallNumber _) (evPos (by omega) ?_)))
   simp only [Option.bind_some]
   have hq : ∀ x ∈ (partsB s).1.drop 1, x.size ≤ 600 := fun x hx => hle x (List.mem_of_mem_drop hx)
   have hql : ((partsB s).1.drop 1).length ≤ 3 := by rw [List.length_drop]; omega
   have fin : ∀ n, halfB n = true → Ev (fun k => impl_ReadCallLine.j1 k (partsB s).1 arch n (List.replicate 3 z103)) (goW arch n (halfB arch) ((partsB s).1.drop 1) []) := by
    intro n hn
    refine evSucc ?_
    simp only [impl_ReadCallLine.j1, Option.bind_some]
    refine evPos (by omega) ?_
    exact ev_impl_goW arch n hn _ hq hql ((partsB s).1.drop 1).length 0 [] (by omega) rfl rfl
   have hh := @headNum_half (rdOf ByteArray.empty (partsB s).1 0)
   unfold headNum at hh ⊢
   by_cases hc : srch (rdOf ByteArray.empty (partsB s).1 0) namesL 0 < 0
   ·rw [if_pos hc] at hh ⊢
    refine evPos hc ?_
    obtain ⟨n, ok, e, q1, q2⟩ := ev_impl_num (rdOf ByteArray.empty (partsB s).1 0)
    refine Ev.bind e ?_
    cases hv : numV (rdOf ByteArray.empty (partsB s).1 0) with
    | none =>
     obtain rfl := q2 hv
     exact evNeg (by simp) (Ev.now _)
    | some v =>
     obtain ⟨rfl, rfl⟩ := q1 v hv
     exact evPos rfl (fin n (hh hv))
   ·rw [if_neg hc] at hh ⊢
    exact evNeg hc (fin _ (hh rfl))
  ·rw [show (decide (1 ≤ ((partsB s).1.length : Int)) && decide (((partsB s).1.length : Int) ≤ 4)) = false by rw [Bool.and_eq_false_iff, decide_eq_false_iff_not, decide_eq_false_iff_not]; omega, if_neg (fun z => h3 z.2)]
   exact bad
 ·rw [if_neg (fun z => h2 z.1)]
  exact evNeg h2 bad
theorem dataApp (a b : ByteArray) : (a ++ b).data.toList = a.data.toList ++ b.data.toList := by simp
theorem ext_mid (p s q : ByteArray) : ((p ++ s) ++ q).extract p.size (p.size + s.size) = s := by
 apply ByteArray.ext
 apply Array.ext'
 rw [ByteArray.data_extract, Array.toList_extract, List.extract_eq_take_drop, dataApp, dataApp, List.append_assoc, sizeData p, sizeData s, List.drop_left, Nat.add_sub_cancel_left, List.take_left]
theorem bt_list (s : ByteArray) (i : Nat) : bt s (i : Int) = ((s.data.toList[i]?).map (fun b => (b.toNat : Int))).getD 0 := by
 by_cases h : i < s.size
 ·rw [bt_byte s i h]
  have hl : i < s.data.toList.length := by rw [← sizeData]; exact h
  rw [List.getElem?_eq_getElem hl]
  rfl
 ·unfold bt
  rw [dif_neg (by simpa using h), List.getElem?_eq_none (by rw [← sizeData]; omega)]
  rfl
theorem bt_left (p q : ByteArray) (i : Nat) (h : i < p.size) : bt (p ++ q) (i : Int) = bt p (i : Int) := by
 rw [bt_list, bt_list, dataApp, List.getElem?_append_left (by rw [← sizeData]; exact h)]
theorem bt_right (p q : ByteArray) (i : Nat) : bt (p ++ q) ((p.size + i : Nat) : Int) = bt q (i : Int) := by
 rw [bt_list, bt_list, dataApp, List.getElem?_append_right (by rw [← sizeData]; omega), sizeData p, Nat.add_sub_cancel_left]
theorem bt_nums (l : List Int) (i : Nat) (hi : i < l.length) (h : ∀ x ∈ l, 0 ≤ x ∧ x < 256) : bt (strOfNums l) (i : Int) = l[i] := by
 have e : (strOfNums l).data.toList = l.map (fun z => UInt8.ofNat z.toNat) := by simp [strOfNums]
 have hx := h _ (List.getElem_mem hi)
 rw [bt_list, e, List.getElem?_map, List.getElem?_eq_getElem hi]
 simp
 omega
def num0 (x : Int) : ByteArray := dec x.toNat
theorem num0_size (x : Int) (h : x ≤ 9223372036854775807) : (num0 x).size ≤ 19 := dec_size _ (by omega)
theorem one32c : (⟨#[32]⟩ : ByteArray).size = 1 := rfl
theorem one58 : (⟨#[58]⟩ : ByteArray).size = 1 := rfl
def cNames : List ByteArray := [(⟨#[114, 101, 97, 100]⟩ : ByteArray), (⟨#[119, 114, 105, 116, 101]⟩ : ByteArray), (⟨#[111, 112, 101, 110]⟩ : ByteArray), (⟨#[99, 108, 111, 115, 101]⟩ : ByteArray), (⟨#[115, 116, 97, 116]⟩ : ByteArray), (⟨#[109, 109, 97, 112]⟩ : ByteArray), (⟨#[101, 120, 101, 99]⟩ : ByteArray), (⟨#[102, 111, 114, 107]⟩ : ByteArray), (⟨#[107, 105, 108, 108]⟩ : ByteArray), (⟨#[115, 101, 110, 100]⟩ : ByteArray), (⟨#[114, 101, 99, 118]⟩ : ByteArray), (⟨#[101, 120, 105, 116]⟩ : ByteArray)]
def nameOf (n : Int) : ByteArray := if n < 12 then rdOf ByteArray.empty cNames n else num0 n
def scStep (s : ByteArray) (w : S103) : ByteArray :=
 if w.f0 > 0 then (((s ++ (⟨#[32]⟩ : ByteArray)) ++ num0 w.f0) ++ (⟨#[58]⟩ : ByteArray)) ++ num0 w.f1 else (s ++ (⟨#[32]⟩ : ByteArray)) ++ num0 w.f1
theorem num0_decI (x : Int) (h : 0 ≤ x) : num0 x = decI x := by
 unfold num0 decI
 rw [if_neg (by omega), show x.toNat = x.natAbs by omega]
theorem ev_dec0 (x : Int) (h0 : 0 ≤ x) (h1 : x ≤ 9223372036854775807) : Ev (fun k => impl_Decimal.f k x) (num0 x) := by
 rw [num0_decI x h0]
 exact ev_impl_Decimal x (by omega) h1
theorem half_of {n : Int} (h : halfB n = true) : 0 ≤ n ∧ n ≤ 4294967295 := by unfold halfB at h; simpa using h
theorem name_size (n : Int) (h0 : 0 ≤ n) (h1 : n ≤ 4294967295) : (nameOf n).size ≤ 19 := by
 unfold nameOf
 by_cases h : n < 12
 ·rw [if_pos h]
  have : n = 0 ∨ n = 1 ∨ n = 2 ∨ n = 3 ∨ n = 4 ∨ n = 5 ∨ n = 6 ∨ n = 7 ∨ n = 8 ∨ n = 9 ∨ n = 10 ∨ n = 11 := by omega
  rcases this with rfl | rfl | rfl | rfl | rfl | rfl | rfl | rfl | rfl | rfl | rfl | rfl <;> decide
 ·rw [if_neg h]; exact num0_size n (by omega)
theorem sc_size (s : ByteArray) (w : S103) (h : wideB w = true) : (scStep s w).size ≤ s.size + 40 := by
 unfold wideB at h
 simp at h
 have h1 := num0_size w.f0 (by have := half_of h.1; omega)
 have h2 := num0_size w.f1 (by have := half_of h.2; omega)
 unfold scStep
 split <;> simp only [sizeApp, one32c, one58] <;> omega
def scAll (n : Int) (l : List S103) : ByteArray := l.foldl scStep (nameOf n)
theorem scAll_size (n : Int) (h0 : 0 ≤ n) (h1 : n ≤ 4294967295) (l : List S103) (hl : ∀ w ∈ l, wideB w = true) : (scAll n l).size ≤ 19 + 40 * l.length := by
 have key : ∀ (l : List S103), (∀ w ∈ l, wideB w = true) → ∀ s : ByteArray, (l.foldl scStep s).size ≤ s.size + 40 * l.length := by
  intro l
  induction l with
  | nil => intro _ s; simp
  | cons w l ih =>
   intro hl s
   rw [List.foldl_cons]
   have h1 := ih (fun w hw => hl w (by simp [hw])) (scStep s w)
   have h2 := sc_size s w (hl w (by simp))
   simp only [List.length_cons]
   omega
 have h := key l hl (nameOf n)
 have h2 := name_size n h0 h1
 unfold scAll
 omega
theorem sc_step (n : Int) (l : List S103) (i : Nat) (hi : i < l.length) : scAll n (l.take (i + 1)) = scStep (scAll n (l.take i)) l[i] := by
 unfold scAll
 rw [takeSnoc l i hi, List.foldl_append]
 rfl
def callLine (a n : Int) (l : List S103) : ByteArray := if callB a n l = true then scAll n l else ⟨#[]⟩
theorem callB_facts {a n : Int} {l : List S103} (h : callB a n l = true) : (∀ w ∈ l, wideB w = true) ∧ (0 ≤ a ∧ a ≤ 4294967295) ∧ (0 ≤ n ∧ n ≤ 4294967295) ∧ l.length = 3 := by
 unfold callB at h
 simp at h
 exact ⟨h.1, half_of h.2.1, half_of h.2.2.1, h.2.2.2⟩
theorem ev_impl_ShowCall (a n : Int) (l : List S103) (hl : l.length ≤ 1048576) : Ev (fun k => impl_ShowCall.f k a n l) (callLine a n l) := by
 unfold callLine
 simp only [impl_ShowCall.f]
 refine Ev.bind (ev_impl_CallOk a n l hl) ?_
 by_cases h : callB a n l = true
 ·rw [if_pos h]
  refine evPos h ?_
  obtain ⟨hw, ha, hn, h3⟩ := callB_facts h
  refine Ev.bind (ev_dec0 n hn.1 (by omega)) ?_
  simp only [impl_CallNames.f, Option.bind_some]
  have loop : Ev (fun k => impl_ShowCall.j0 k (nameOf n) a n l) (scAll n l) := by
   refine evSucc ?_
   simp only [impl_ShowCall.j0]
   have key := evUp (r := scAll n l) l.length (fun i k => impl_ShowCall.l0 k (scAll n (l.take i)) l (l.length : Int) (i : Int)) ?_ ?_
   ·exact key
   ·intro i hi ih
    have hs := scAll_size n hn.1 hn.2 (l.take i) (fun w hx => hw w (List.mem_of_mem_take hx))
    have hln : (l.take i).length ≤ i := by simp; omega
    have hi' := hw _ (List.getElem_mem hi)
    unfold wideB at hi'
    simp at hi'
    have b0 := half_of hi'.1
    have b1 := half_of hi'.2
    have s0 := num0_size l[i].f0 (by omega)
    have s1 := num0_size l[i].f1 (by omega)
    have st := sc_step n l i hi
    unfold scStep at st
    refine evSucc ?_
    simp only [impl_ShowCall.l0]
    refine evPos (by omega) (evPos (by omega) (evPos (by omega) (evPos (by omega) ?_)))
    rw [rdW l i hi, w64 (by omega) (by omega), ci]
    by_cases hp : l[i].f0 > 0
    ·rw [if_pos hp] at st
     refine evPos hp (Ev.bind (ev_dec0 _ b0.1 (by omega)) (evPos (by simp only [sizeApp, one32c]; omega) (evPos (by simp only [sizeApp, one32c]; omega) (Ev.bind (ev_dec0 _ b1.1 (by omega)) (evPos (by simp only [sizeApp, one32c, one58]; omega) ?_)))))
     rw [← st]
     exact ih
    ·rw [if_neg hp] at st
     refine evNeg hp (Ev.bind (ev_dec0 _ b1.1 (by omega)) (evPos (by simp only [sizeApp, one32c]; omega) ?_))
     rw [← st]
     exact ih
   ·refine evSucc ?_
    simp only [impl_ShowCall.l0]
    refine evNeg (by omega) ?_
    rw [List.take_length]
    exact Ev.now _
  by_cases h12 : n < 12
  ·refine evPos (by simpa using h12) (evPos hn.1 ?_)
   unfold nameOf at loop
   rw [if_pos h12] at loop
   exact loop
  ·refine evNeg (by simpa using h12) ?_
   unfold nameOf at loop
   rw [if_neg h12] at loop
   exact loop
 ·rw [if_neg h]
  exact evNeg h (Ev.now _)
theorem figs_left (a b : ByteArray) : ∀ i, i ≤ a.size → figs (a ++ b) i = figs a i := by
 intro i
 induction i with
 | zero => intro _; rfl
 | succ i ih => intro h; unfold figs; rw [ih (by omega), bt_left a b i (by omega)]
theorem valN_left (a b : ByteArray) : ∀ i, i ≤ a.size → valN (a ++ b) i = valN a i := by
 intro i
 induction i with
 | zero => intro _; rfl
 | succ i ih => intro h; unfold valN; rw [ih (by omega), bt_left a b i (by omega)]
theorem bt_dg (n : Nat) : bt (dg n) ((0 : Nat) : Int) = 48 + (n % 10 : Nat) := by
 have h := dg_of ((n % 10 : Nat) : Int) (by omega) (by omega)
 rw [show (48 + ((n % 10 : Nat) : Int)) % 256 = 48 + ((n % 10 : Nat) : Int) by omega, Int.toNat_natCast] at h
 have e : dg (n % 10) = dg n := by unfold dg; rw [Nat.mod_mod]
 rw [← e, ← h, bt_nums _ 0 (by simp) (by intro x hx; rw [List.mem_singleton] at hx; omega)]
 rfl
theorem dec_figs : ∀ n : Nat, figs (dec n) (dec n).size = true ∧ valN (dec n) (dec n).size = (n : Int) := by
 intro n
 induction n using Nat.strongRecOn with
 | ind n ih =>
  by_cases h : n < 10
  ·rw [dec_small n h, dg_size]
   have hb := bt_dg n
   constructor
   ·unfold figs figs
    rw [Bool.true_and]
    exact (figB_iff _).2 (by omega)
   ·unfold valN valN
    omega
  ·obtain ⟨h1, h2⟩ := ih (n / 10) (by omega)
   have hb := bt_dg n
   have hr := bt_right (dec (n / 10)) (dg n) 0
   rw [Nat.add_zero] at hr
   rw [dec_step n (by omega), sizeApp, dg_size]
   constructor
   ·unfold figs
    rw [figs_left _ _ _ (Nat.le_refl _), h1, Bool.true_and, hr]
    exact (figB_iff _).2 (by omega)
   ·unfold valN
    rw [valN_left _ _ _ (Nat.le_refl _), h2, hr]
    omega
theorem dec_pos (n : Nat) : 1 ≤ (dec n).size := by
 by_cases h : n < 10
 ·rw [dec_small n h, dg_size]; exact Nat.le_refl _
 ·rw [dec_step n (by omega), sizeApp, dg_size]; omega
theorem numV_num0 (x : Int) (h0 : 0 ≤ x) (h1 : x ≤ 4294967295) : numV (num0 x) = some x := by
 obtain ⟨f1, f2⟩ := dec_figs x.toNat
 have hs := dec_size_lt 10 x.toNat (by omega) (by omega)
 have hp := dec_pos x.toNat
 have hv : valN (dec x.toNat) (dec x.toNat).size = x := by rw [f2]; omega
 unfold num0 numV
 have hl := (decI_val (dec x.toNat) hp hs f1).1 (by rw [hv]; unfold decI; rw [if_neg (by omega), show x.natAbs = x.toNat by omega])
 rw [if_pos ⟨hp, hs, f1, hl, by omega⟩, hv]
theorem bt_num0 (x : Int) (i : Nat) (hi : i < (num0 x).size) : 48 ≤ bt (num0 x) (i : Int) ∧ bt (num0 x) (i : Int) ≤ 57 := (figB_iff _).1 (figs_at _ _ i (dec_figs x.toNat).1 hi)
def colonS : ByteArray := ⟨#[58]⟩
def wideT (w : S103) : ByteArray := if w.f0 > 0 then (num0 w.f0 ++ colonS) ++ num0 w.f1 else num0 w.f1
theorem wideR_none (s : ByteArray) : ∀ d i, i + d = s.size → (∀ j, i ≤ j → j < s.size → bt s (j : Int) ≠ 58) → wideR s d i = (numV s).map (fun lo => ⟨0, lo⟩) := by
 intro d
 induction d with
 | zero => intro i _ _; rfl
 | succ d ih =>
  intro i hi h
  unfold wideR
  rw [if_neg (h i (Nat.le_refl _) (by omega))]
  exact ih (i + 1) (by omega) (fun j h1 h2 => h j (by omega) h2)
theorem wideR_at (s : ByteArray) (c : Nat) (hc : c < s.size) (h58 : bt s (c : Int) = 58) (hb : ∀ j, j < c → bt s (j : Int) ≠ 58) : ∀ d i, i + d = s.size → i ≤ c → wideR s d i = (numV (s.extract 0 c)).bind (fun hi => (numV (s.extract (c + 1) s.size)).map (fun lo => ⟨hi, lo⟩)) := by
 intro d
 induction d with
 | zero => intro i hi h; omega
 | succ d ih =>
  intro i hi h
  unfold wideR
  by_cases e : i = c
  ·subst e
   rw [if_pos h58]
  ·rw [if_neg (hb i (by omega))]
   exact ih (i + 1) (by omega) (by omega)
theorem wideR_text (w : S103) (h : wideB w = true) : wideR (wideT w) (wideT w).size 0 = some w := by
 have h' : halfB w.f0 = true ∧ halfB w.f1 = true := by unfold wideB at h; rwa [Bool.and_eq_true] at h
 have a0 := half_of h'.1
 have a1 := half_of h'.2
 unfold wideT
 by_cases hz : w.f0 > 0
 ·rw [if_pos hz]
  have hsz : ((num0 w.f0 ++ colonS) ++ num0 w.f1).size = (num0 w.f0).size + 1 + (num0 w.f1).size := by rw [sizeApp, sizeApp]; rfl
  have hcs : (num0 w.f0 ++ colonS).size = (num0 w.f0).size + 1 := by rw [sizeApp]; rfl
  rw [wideR_at _ (num0 w.f0).size (by omega) ?_ ?_ _ 0 (by omega) (Nat.zero_le _)]
  ·have e1 : ((num0 w.f0 ++ colonS) ++ num0 w.f1).extract 0 (num0 w.f0).size = num0 w.f0 := by
    have := ext_mid ByteArray.empty (num0 w.f0) (colonS ++ num0 w.f1)
    rw [ByteArray.empty_append, ← ByteArray.append_assoc] at this
    rw [show ByteArray.empty.size = 0 from rfl, Nat.zero_add] at this
    exact this
   have e2 : ((num0 w.f0 ++ colonS) ++ num0 w.f1).extract ((num0 w.f0).size + 1) ((num0 w.f0 ++ colonS) ++ num0 w.f1).size = num0 w.f1 := by
    have := ext_mid (num0 w.f0 ++ colonS) (num0 w.f1) ByteArray.empty
    rw [ByteArray.append_empty, hcs] at this
    rw [hsz]
    exact this
   rw [e1, e2, numV_num0 _ a0.1 a0.2, numV_num0 _ a1.1 a1.2]
   rfl
  ·rw [bt_left _ _ _ (by omega)]
   have := bt_right (num0 w.f0) colonS 0
   rw [Nat.add_zero] at this
   rw [this]
   rfl
  ·intro j hj
   rw [bt_left _ _ _ (by omega), bt_left _ _ _ hj]
   have := bt_num0 w.f0 j hj
   omega
 ·rw [if_neg hz, wideR_none _ _ 0 (by omega) (fun j _ hj => by have := bt_num0 w.f1 j hj; omega), numV_num0 _ a1.1 a1.2]
  have : w.f0 = 0 := by omega
  show some (⟨0, w.f1⟩ : S103) = some w
  rw [← this]
def spS : ByteArray := ⟨#[32]⟩
def wordS (x : ByteArray) : Prop := 0 < x.size ∧ ∀ j, j < x.size → 33 ≤ bt x (j : Int) ∧ bt x (j : Int) ≤ 126
def glue : ByteArray → List ByteArray → ByteArray
 | P, [] => P
 | P, X :: r => glue ((P ++ spS) ++ X) r
theorem glue_app : ∀ (r : List ByteArray) (A B : ByteArray), glue (A ++ B) r = A ++ glue B r := by
 intro r
 induction r with
 | nil => intro A B; rfl
 | cons X r ih =>
  intro A B
  show glue (((A ++ B) ++ spS) ++ X) r = A ++ glue ((B ++ spS) ++ X) r
  rw [ByteArray.append_assoc, ByteArray.append_assoc, ih, ByteArray.append_assoc]
theorem prB_word {c : Int} (h : 33 ≤ c ∧ c ≤ 126) : prB c = true := by
 unfold prB
 rw [Bool.and_eq_true, decide_eq_true_eq, decide_eq_true_eq]
 omega
theorem parts_run (s : ByteArray) (b : Nat) (out : List ByteArray) (d : Nat) : ∀ m i, i + m ≤ s.size → (∀ j, i ≤ j → j < i + m → 33 ≤ bt s (j : Int) ∧ bt s (j : Int) ≤ 126) → partsR s (d + m) i b out = partsR s d (i + m) b out := by
 intro m
 induction m with
 | zero => intro i _ _; rfl
 | succ m ih =>
  intro i hi h
  have h0 := h i (Nat.le_refl _) (by omega)
  rw [show d + (m + 1) = (d + m) + 1 by omega]
  rw [partsR.eq_def]
  simp only
  rw [if_neg (fun z => by rw [prB_word h0] at z; cases z.2), if_pos ⟨by omega, by omega⟩, ih (i + 1) (by omega) (fun j h1 h2 => h j (by omega) (by omega)), show i + 1 + m = i + (m + 1) by omega]
theorem parts_end (s : ByteArray) (d i b : Nat) (out : List ByteArray) (hi : i = s.size ∨ (i < s.size ∧ bt s (i : Int) = 32)) : partsR s (d + 1) i b out = if b < i then partsR s d (i + 1) (i + 1) (out ++ [s.extract b i]) else partsR s d (i + 1) (i + 1) out := by
 rw [partsR.eq_def]
 simp only
 have h1 : ¬ (i < s.size ∧ prB (bt s (i : Int)) = false) := by
  rintro ⟨z1, z2⟩
  rcases hi with e | ⟨_, e⟩
  ·omega
  ·rw [e] at z2; exact absurd z2 (by decide)
 have h2 : ¬ (i < s.size ∧ bt s (i : Int) ≠ 32) := by
  rintro ⟨z1, z2⟩
  rcases hi with e | ⟨_, e⟩
  ·omega
  ·exact z2 e
 rw [if_neg h1, if_neg h2]
theorem parts_word (P X Q : ByteArray) (hX : wordS X) (hQ : Q.size = 0 ∨ (0 < Q.size ∧ bt Q ((0 : Nat) : Int) = 32)) (d : Nat) (out : List ByteArray) :
 partsR ((P ++ X) ++ Q) (d + 1 + X.size) P.size P.size out = partsR ((P ++ X) ++ Q) d (P.size + X.size + 1) (P.size + X.size + 1) (out ++ [X]) := by
 have hsz : ((P ++ X) ++ Q).size = P.size + X.size + Q.size := by rw [sizeApp, sizeApp]
 have hps : (P ++ X).size = P.size + X.size := sizeApp _ _
 rw [parts_run _ _ _ (d + 1) X.size P.size (by omega) ?_, parts_end _ _ _ _ _ ?_, if_pos (by have := hX.1; omega), ext_mid]
 ·rcases hQ with e | ⟨e0, e⟩
  ·exact Or.inl (by omega)
  ·refine Or.inr ⟨by omega, ?_⟩
   have := bt_right (P ++ X) Q 0
   rw [Nat.add_zero, hps] at this
   rw [this]
   exact e
 ·intro j h1 h2
  obtain ⟨q, rfl⟩ : ∃ q, j = P.size + q := ⟨j - P.size, by omega⟩
  rw [bt_left _ _ _ (by omega), bt_right]
  exact hX.2 q (by omega)
theorem parts_glue (R : ByteArray) (hR : R = ByteArray.empty ∨ R = spS) : ∀ (Ws : List ByteArray) (P X : ByteArray) (out : List ByteArray) (d : Nat), wordS X → (∀ Y ∈ Ws, wordS Y) → P.size + d = (glue (P ++ X) Ws ++ R).size + 1 → out.length + Ws.length + 1 ≤ 10 →
 partsR (glue (P ++ X) Ws ++ R) d P.size P.size out = (out ++ X :: Ws, true) := by
 intro Ws
 induction Ws with
 | nil =>
  intro P X out d hX _ hd hl
  have hps : (glue (P ++ X) [] ++ R).size = P.size + X.size + R.size := by show ((P ++ X) ++ R).size = _; rw [sizeApp, sizeApp]
  have hfin : ∀ t i b, partsR t 0 i b (out ++ [X]) = (out ++ [X], true) := by
   intro t i b
   rw [partsR.eq_def]
   simp only
   rw [if_neg (by rw [List.length_append, List.length_singleton]; rw [List.length_nil] at hl; omega)]
  show partsR ((P ++ X) ++ R) d P.size P.size out = _
  rcases hR with rfl | rfl
  ·rw [show d = 0 + 1 + X.size by rw [hps] at hd; have : ByteArray.empty.size = 0 := rfl; omega, parts_word P X _ hX (Or.inl rfl), hfin]
  ·have h1 : spS.size = 1 := rfl
   rw [show d = 1 + 1 + X.size by omega, parts_word P X _ hX (Or.inr ⟨by omega, by rfl⟩), parts_end _ _ _ _ _ (Or.inl (by rw [sizeApp, sizeApp]; omega)), if_neg (by omega), hfin]
 | cons Y r ih =>
  intro P X out d hX hWs hd hl
  have hs : glue (P ++ X) (Y :: r) ++ R = (P ++ X) ++ (glue (spS ++ Y) r ++ R) := by
   show glue (((P ++ X) ++ spS) ++ Y) r ++ R = _
   rw [ByteArray.append_assoc, glue_app, ByteArray.append_assoc]
  have hs2 : glue (P ++ X) (Y :: r) ++ R = glue ((((P ++ X) ++ spS)) ++ Y) r ++ R := rfl
  have hsz : (glue (P ++ X) (Y :: r) ++ R).size = P.size + X.size + (glue (spS ++ Y) r ++ R).size := by rw [hs, sizeApp, sizeApp]
  have hq : (glue (spS ++ Y) r ++ R) = spS ++ (glue Y r ++ R) := by rw [glue_app, ByteArray.append_assoc]
  have hq1 : (glue (spS ++ Y) r ++ R).size = 1 + (glue Y r ++ R).size := by rw [hq, sizeApp]; rfl
  have hq0 : bt (glue (spS ++ Y) r ++ R) ((0 : Nat) : Int) = 32 := by
   rw [hq, bt_left _ _ 0 (by show 0 < 1; omega)]
   rfl
  obtain ⟨d', rfl⟩ : ∃ d', d = d' + 1 + X.size := ⟨d - 1 - X.size, by omega⟩
  have hpw := parts_word P X (glue (spS ++ Y) r ++ R) hX (Or.inr ⟨by omega, hq0⟩) d' out
  rw [← hs] at hpw
  rw [hpw, hs2]
  have hp' : ((P ++ X) ++ spS).size = P.size + X.size + 1 := by rw [sizeApp, sizeApp]; rfl
  rw [← hp']
  rw [ih ((P ++ X) ++ spS) Y (out ++ [X]) d' (hWs Y (List.mem_cons_self ..)) (fun Z hZ => hWs Z (List.mem_cons_of_mem _ hZ)) (by rw [← hs2]; omega) (by rw [List.length_append, List.length_singleton]; rw [List.length_cons] at hl; omega), List.append_assoc]
  rfl
def ctStep (s : ByteArray) (w : S103) : ByteArray := (s ++ four4 w.f0) ++ four4 w.f1
def ctAll (a b : Int) (l : List S103) : ByteArray := l.foldl ctStep (four4 a ++ four4 b)
theorem ct_size (a b : Int) (l : List S103) : (ctAll a b l).size = 8 + 8 * l.length := by
 have key : ∀ (l : List S103) (s : ByteArray), (l.foldl ctStep s).size = s.size + 8 * l.length := by
  intro l
  induction l with
  | nil => intro s; simp
  | cons w l ih => intro s; rw [List.foldl_cons, ih]; simp [ctStep, sizeApp, four4_size]; omega
 unfold ctAll
 rw [key, sizeApp, four4_size, four4_size]
theorem ct_step (a b : Int) (l : List S103) (i : Nat) (hi : i < l.length) : ctAll a b (l.take (i + 1)) = ctStep (ctAll a b (l.take i)) l[i] := by
 unfold ctAll
 rw [takeSnoc l i hi, List.foldl_append]
 rfl
def ctB (a b : Int) (l : List S103) : ByteArray × Bool := if callB a b l = true then (ctAll a b l, true) else (⟨#[]⟩, false)
theorem ev_impl_CallText (a b : Int) (l : List S103) (hl : l.length ≤ 1048576) : Ev (fun k => impl_CallText.f k a b l) (ctB a b l) := by
 simp only [impl_CallText.f]
 refine Ev.bind (ev_impl_CallOk a b l hl) ?_
 unfold ctB
 by_cases h : callB a b l = true
 ·rw [if_pos h]
  refine evPos h ?_
  simp only [impl_four4, Option.bind_some]
  refine evPos (by rw [four4_size, four4_size]; omega) ?_
  have key := evUp (r := (ctAll a b l, true)) l.length (fun i k => impl_CallText.l0 k (ctAll a b (l.take i)) l (l.length : Int) (i : Int)) ?_ ?_
  ·exact key
  ·intro i hi ih
   have hs := ct_size a b (l.take i)
   have hln : (l.take i).length ≤ i := by simp; omega
   refine evSucc ?_
   simp only [impl_CallText.l0]
   refine evPos (by omega) (evPos (by omega) (evPos (by omega) ?_))
   rw [rdW l i hi, w64 (by omega) (by omega), ci]
   simp only [impl_four4, Option.bind_some]
   refine evPos (by rw [four4_size]; omega) (evPos (by rw [sizeApp, four4_size, four4_size]; omega) ?_)
   have := ct_step a b l i hi
   unfold ctStep at this
   rw [← this]
   exact ih
  ·refine evSucc ?_
   simp only [impl_CallText.l0]
   refine evNeg (by omega) ?_
   rw [List.take_length]
   exact Ev.now _
 ·rw [if_neg h]
  exact evNeg h (Ev.now _)
def argsOf (t : ByteArray) : List S103 := [⟨fourV t 8, fourV t 12⟩, ⟨fourV t 16, fourV t 20⟩, ⟨fourV t 24, fourV t 28⟩]
theorem ev_impl_ReadCall (t : ByteArray) (h : t.size = 32) : Ev (fun k => impl_ReadCall.f k t) (fourV t 0, fourV t 4, argsOf t, true) := by
 simp only [impl_ReadCall.f]
 refine evPos (by omega) ?_
 refine evBindS (fourAt_impl t 0 (by omega) (by omega) (by omega)) (evBindS (fourAt_impl t 4 (by omega) (by omega) (by omega)) ?_)
 refine evSucc ?_
 simp only [impl_ReadCall.l0]
 refine evPos (by omega) (evBindS (fourAt_impl t _ (by unfold wrap64; omega) (by rw [show wrap64 (8 + wrap64 (8 * 0)) = 8 from by unfold wrap64; omega]; omega) (by omega)) (evBindS (fourAt_impl t _ (by unfold wrap64; omega) (by rw [show wrap64 (12 + wrap64 (8 * 0)) = 12 from by unfold wrap64; omega]; omega) (by omega)) (evPos (by simp) (evSucc ?_))))
 simp only [impl_ReadCall.l0]
 refine evPos (by unfold wrap64; omega) (evBindS (fourAt_impl t _ (by unfold wrap64; omega) (by rw [show wrap64 (8 + wrap64 (8 * wrap64 (0 + 1))) = 16 from by unfold wrap64; omega]; omega) (by omega)) (evBindS (fourAt_impl t _ (by unfold wrap64; omega) (by rw [show wrap64 (12 + wrap64 (8 * wrap64 (0 + 1))) = 20 from by unfold wrap64; omega]; omega) (by omega)) (evPos (by simp) (evSucc ?_))))
 simp only [impl_ReadCall.l0]
 refine evPos (by unfold wrap64; omega) (evBindS (fourAt_impl t _ (by unfold wrap64; omega) (by rw [show wrap64 (8 + wrap64 (8 * wrap64 (wrap64 (0 + 1) + 1))) = 24 from by unfold wrap64; omega]; omega) (by omega)) (evBindS (fourAt_impl t _ (by unfold wrap64; omega) (by rw [show wrap64 (12 + wrap64 (8 * wrap64 (wrap64 (0 + 1) + 1))) = 28 from by unfold wrap64; omega]; omega) (by omega)) (evPos (by simp) (evSucc ?_))))
 simp only [impl_ReadCall.l0]
 refine evNeg (by unfold wrap64; omega) (evEq (Ev.now _) ?_)
 simp [argsOf, wrap64]
theorem and255 (x : Int) : 0 ≤ Go.bits .and .i64 x 255 ∧ Go.bits .and .i64 x 255 ≤ 255 := by
 have e : Go.bits .and .i64 x 255 = (((BitVec.ofInt 64 x).toNat % 256 : Nat) : Int) := by
  rw [bits_nat]
  show IntKind.wrap .i64 ((BitVec.ofInt 64 x &&& BitVec.ofInt 64 ((255 : Nat) : Int)).toNat : Int) = _
  rw [BitVec.toNat_and, ofInt_nat64 255 (by omega), wrap_i64]
  have : (BitVec.ofInt 64 x).toNat &&& 255 = (BitVec.ofInt 64 x).toNat % 256 := Nat.and_two_pow_sub_one_eq_mod _ 8
  rw [this, w64 (by omega) (by omega)]
 rw [e]
 omega
theorem drawByte (b : List Int) (i h : Int) (h0 : 0 ≤ i) (h1 : i ≤ b.length) (hb : b.length ≤ 16777216) : ∃ x i' h', spec_l01Byte.f b i h = some (x, i', h') ∧ 0 ≤ x ∧ x ≤ 255 ∧ 0 ≤ i' ∧ i' ≤ b.length := by
 unfold spec_l01Byte.f
 by_cases hc : i < (b.length : Int)
 ·rw [if_pos hc, if_pos h0, w64 (x := i + 1) (by omega) (by omega)]
  refine ⟨_, _, _, rfl, (and255 _).1, (and255 _).2, by omega, by omega⟩
 ·rw [if_neg hc]
  exact ⟨_, _, _, rfl, (and255 _).1, (and255 _).2, h0, h1⟩
theorem drawBelow (b : List Int) (i h n : Int) (h0 : 0 ≤ i) (h1 : i ≤ b.length) (hb : b.length ≤ 16777216) (hn : 0 < n) : ∃ x i' h', spec_l01Below.f b i h n = some (x, i', h') ∧ 0 ≤ x ∧ x < n ∧ 0 ≤ i' ∧ i' ≤ b.length := by
 unfold spec_l01Below.f
 rw [if_neg (by omega)]
 by_cases hc : n ≤ 256
 ·obtain ⟨x, i', h', e, x0, x1, i0, i1⟩ := drawByte b i h h0 h1 hb
  rw [if_pos hc, e]
  simp only [Option.bind_some]
  rw [if_neg (by omega), Int.tmod_eq_emod_of_nonneg x0]
  exact ⟨_, _, _, rfl, Int.emod_nonneg _ (by omega), Int.emod_lt_of_pos _ hn, i0, i1⟩
 ·obtain ⟨x, i1, h1', e1, x0, x1, j0, j1⟩ := drawByte b i h h0 h1 hb
  obtain ⟨y, i2, h2', e2, y0, y1, k0, k1⟩ := drawByte b i1 h1' j0 j1 hb
  obtain ⟨z, i3, h3', e3, z0, z1, l0, l1⟩ := drawByte b i2 h2' k0 k1 hb
  obtain ⟨v, i4, h4', e4, v0, v1, m0, m1⟩ := drawByte b i3 h3' l0 l1 hb
  rw [if_neg hc, e1]
  simp only [Option.bind_some, e2, e3, e4]
  rw [if_neg (by omega), w64 (x := x * 16777216) (by omega) (by omega), w64 (x := y * 65536) (by omega) (by omega), w64 (x := x * 16777216 + y * 65536) (by omega) (by omega), w64 (x := z * 256) (by omega) (by omega), w64 (x := x * 16777216 + y * 65536 + z * 256) (by omega) (by omega), w64 (x := x * 16777216 + y * 65536 + z * 256 + v) (by omega) (by omega), Int.tmod_eq_emod_of_nonneg (by omega)]
  exact ⟨_, _, _, rfl, Int.emod_nonneg _ (by omega), Int.emod_lt_of_pos _ hn, m0, m1⟩
theorem drawOnce (b : List Int) (i h n : Int) (h0 : 0 ≤ i) (h1 : i ≤ b.length) (hb : b.length ≤ 16777216) (hn : 0 < n) : ∃ (x : Bool) (i' h' : Int), spec_l01Once.f b i h n = some (x, i', h') ∧ 0 ≤ i' ∧ i' ≤ b.length := by
 unfold spec_l01Once.f
 obtain ⟨x, i', h', e, x0, x1, i0, i1⟩ := drawBelow b i h n h0 h1 hb hn
 rw [e]
 exact ⟨_, _, _, rfl, i0, i1⟩
theorem drawNew (b : List Int) (hb : b.length ≤ 16777216) : ∃ h : Int, Ev (fun k => spec_l01New.f k b) (b, 0, h) := by
 have key : ∀ d (i : Nat) (h : Int), i + d = b.length → ∃ h', Ev (fun k => spec_l01New.l0 k b h (i : Int)) (b, 0, h') := by
  intro d
  induction d with
  | zero =>
   intro i h hi
   refine ⟨h, evSucc ?_⟩
   simp only [spec_l01New.l0]
   exact evNeg (by omega) (Ev.now _)
  | succ d ih =>
   intro i h hi
   by_cases h4 : (i : Int) < 4000
   ·obtain ⟨h', hh⟩ := ih (i + 1) (Go.bits .and .i64 (wrap64 ((wrap64 ((wrap64 (h * 131)) + (wrap64 (rd b (i : Int))))) + 7)) 1073741823) (by omega)
    refine ⟨h', evSucc ?_⟩
    simp only [spec_l01New.l0]
    refine evPos (by omega) (evPos h4 (evPos (by omega) ?_))
    rw [w64 (x := (i : Int) + 1) (by omega) (by omega), ci]
    exact hh
   ·refine ⟨h, evSucc ?_⟩
    simp only [spec_l01New.l0]
    exact evPos (by omega) (evNeg h4 (Ev.now _))
 simp only [spec_l01New.f]
 exact key b.length 0 _ (by omega)
theorem drawHalf (b : List Int) (i h : Int) (h0 : 0 ≤ i) (h1 : i ≤ b.length) (hb : b.length ≤ 16777216) : ∃ x i' h', spec_l04Half.f b i h = some (x, i', h') ∧ 0 ≤ x ∧ x ≤ 4294967295 ∧ 0 ≤ i' ∧ i' ≤ b.length := by
 unfold spec_l04Half.f
 obtain ⟨x, i1, h1', e1, x0, x1, j0, j1⟩ := drawBelow b i h 12 h0 h1 hb (by omega)
 rw [e1]
 simp only [Option.bind_some]
 unfold spec_l01PickInt.f
 obtain ⟨y, i2, h2', e2, y0, y1, k0, k1⟩ := drawBelow b i1 h1' (([0, 1, 2, 3, 5, 7, 255, 4294967295, 2147483648, x] : List Int).length : Int) j0 j1 hb (by simp)
 rw [e2]
 simp only [Option.bind_some]
 rw [if_pos y0, if_pos y1]
 simp only [Option.bind_some]
 have hy : y < 10 := y1
 refine ⟨_, _, _, rfl, ?_, ?_, k0, k1⟩
 all_goals
  have hc : y = 0 ∨ y = 1 ∨ y = 2 ∨ y = 3 ∨ y = 4 ∨ y = 5 ∨ y = 6 ∨ y = 7 ∨ y = 8 ∨ y = 9 := by omega
  rcases hc with rfl | rfl | rfl | rfl | rfl | rfl | rfl | rfl | rfl | rfl <;> simp [rd] <;> omega
theorem rdMem (l : List Int) (x : Int) (h0 : 0 ≤ x) (h1 : x < (l.length : Int)) : rd l x ∈ l := by
 unfold rd
 rw [List.getD_eq_getElem?_getD, List.getElem?_eq_getElem (by omega)]
 exact List.getElem_mem _
theorem drawPickInt (b : List Int) (i h : Int) (l : List Int) (hl : 0 < l.length) (h0 : 0 ≤ i) (h1 : i ≤ b.length) (hb : b.length ≤ 16777216) : ∃ x i' h', spec_l01PickInt.f b i h l = some (x, i', h') ∧ x ∈ l ∧ 0 ≤ i' ∧ i' ≤ b.length := by
 unfold spec_l01PickInt.f
 obtain ⟨y, i2, h2', e2, y0, y1, k0, k1⟩ := drawBelow b i h (l.length : Int) h0 h1 hb (by omega)
 rw [e2]
 simp only [Option.bind_some]
 rw [if_pos y0, if_pos y1]
 exact ⟨_, _, _, rfl, rdMem l y y0 y1, k0, k1⟩
theorem halfB_of {x : Int} (h0 : 0 ≤ x) (h1 : x ≤ 4294967295) : halfB x = true := by
 unfold halfB
 rw [Bool.and_eq_true, decide_eq_true_eq, decide_eq_true_eq]
 exact ⟨h0, h1⟩
theorem drawWide (b : List Int) (i h : Int) (h0 : 0 ≤ i) (h1 : i ≤ b.length) (hb : b.length ≤ 16777216) : ∃ x y i' h', spec_l04Wide.f b i h = some (x, y, i', h') ∧ wideB (⟨x, y⟩ : S103) = true ∧ 0 ≤ i' ∧ i' ≤ b.length := by
 unfold spec_l04Wide.f
 obtain ⟨y, i1, h1', e1, y0, y1, j0, j1⟩ := drawHalf b i h h0 h1 hb
 rw [e1]
 simp only [Option.bind_some]
 obtain ⟨c, i2, h2', e2, k0, k1⟩ := drawOnce b i1 h1' 3 j0 j1 hb (by omega)
 rw [e2]
 simp only [Option.bind_some]
 cases c
 ·rw [if_neg (by simp)]
  refine ⟨_, _, _, _, rfl, ?_, k0, k1⟩
  show (halfB 0 && halfB y) = true
  rw [halfB_of y0 y1]
  rfl
 ·rw [if_pos rfl]
  obtain ⟨x, i3, h3', e3, x0, x1, l0, l1⟩ := drawHalf b i2 h2' k0 k1 hb
  rw [e3]
  refine ⟨_, _, _, _, rfl, ?_, l0, l1⟩
  show (halfB x && halfB y) = true
  rw [halfB_of y0 y1, halfB_of x0 x1]
  rfl
theorem drawCall (b : List Int) (hb : b.length ≤ 16777216) (i h : Int) (h0 : 0 ≤ i) (h1 : i ≤ b.length) : ∃ a n l i' h', Ev (fun k => spec_l04Call.f k b i h) (a, n, l, i', h') ∧ halfB a = true ∧ halfB n = true ∧ List.length l = 3 ∧ List.all l wideB = true ∧ 0 ≤ i' ∧ i' ≤ b.length := by
 obtain ⟨a, i1, h1', e1, ha, j0, j1⟩ := drawPickInt b i h [62, 62, 62, 62, 3] (by decide) h0 h1 hb
 obtain ⟨n, i2, h2', e2, hn, k0, k1⟩ := drawPickInt b i1 h1' [0, 1, 2, 3, 4, 6, 9, 11, 4294967295, 77] (by decide) j0 j1 hb
 have ha' : halfB a = true := by
  have : ∀ y ∈ ([62, 62, 62, 62, 3] : List Int), halfB y = true := by decide
  exact this a ha
 have hn' : halfB n = true := by
  have : ∀ y ∈ ([0, 1, 2, 3, 4, 6, 9, 11, 4294967295, 77] : List Int), halfB y = true := by decide
  exact this n hn
 have key : ∀ d (m : Nat) (acc : List S103) (i h : Int), m + d = 3 → acc.length = m → acc.all wideB = true → 0 ≤ i → i ≤ b.length → ∃ l i' h', Ev (fun k => spec_l04Call.l0 k (m : Int) b i h a n acc) (a, n, l, i', h') ∧ List.length l = 3 ∧ List.all l wideB = true ∧ 0 ≤ i' ∧ i' ≤ b.length := by
  intro d
  induction d with
  | zero =>
   intro m acc i h hm hl ha h0 h1
   refine ⟨acc, i, h, evSucc ?_, by omega, ha, h0, h1⟩
   simp only [spec_l04Call.l0]
   exact evNeg (by omega) (Ev.now _)
  | succ d ih =>
   intro m acc i h hm hl ha h0 h1
   obtain ⟨x, y, i3, h3', e3, hw, l0, l1⟩ := drawWide b i h h0 h1 hb
   obtain ⟨l, i', h', e, r1, r2, r3, r4⟩ := ih (m + 1) (acc ++ [⟨x, y⟩]) i3 h3' (by omega) (by rw [List.length_append, List.length_singleton]; omega) (by rw [List.all_append, ha, List.all_cons, hw]; rfl) l0 l1
   refine ⟨l, i', h', evSucc ?_, r1, r2, r3, r4⟩
   simp only [spec_l04Call.l0]
   refine evPos (by omega) (evBindS e3 (evPos (by omega) ?_))
   rw [w64 (by omega) (by omega), ci]
   exact e
 obtain ⟨l, i', h', e, r1, r2, r3, r4⟩ := key 3 0 [] i2 h2' rfl rfl rfl k0 k1
 refine ⟨a, n, l, i', h', ?_, ha', hn', r1, r2, r3, r4⟩
 simp only [spec_l04Call.f]
 exact evBindS e1 (evBindS e2 e)
theorem ev_sameCall (a n : Int) (l : List S103) (hl : l.length ≤ 1048576) : Ev (fun k => laws_sameCall.f k a n l a n l) true := by
 simp only [laws_sameCall.f]
 refine evPos trivial (evPos trivial ?_)
 rw [bne_self_eq_false]
 refine evSucc ?_
 simp only [laws_sameCall.j0]
 refine evNeg (by simp) ?_
 have key := evUp (r := true) l.length (fun i k => laws_sameCall.l0 k (i : Int) a n l a n l) ?_ ?_
 ·exact key
 ·intro i hi ih
  refine evSucc ?_
  simp only [laws_sameCall.l0]
  refine evPos (by omega) (evPos (by omega) (evPos (by omega) (evNeg (by simp) ?_)))
  rw [w64 (by omega) (by omega), ci]
  exact ih
 ·refine evSucc ?_
  simp only [laws_sameCall.l0]
  exact evNeg (by omega) (Ev.now _)
theorem four_at (p q : ByteArray) (x : Int) (h0 : 0 ≤ x) (h1 : x ≤ 4294967295) : fourV ((p ++ four4 x) ++ q) (p.size : Int) = x := by
 have hs : (p ++ four4 x).size = p.size + 4 := by rw [sizeApp, four4_size]
 have at_ : ∀ j (hj : j < ([(x / 16777216) % 256, (x / 65536) % 256, (x / 256) % 256, x % 256] : List Int).length), bt ((p ++ four4 x) ++ q) ((p.size + j : Nat) : Int) = ([(x / 16777216) % 256, (x / 65536) % 256, (x / 256) % 256, x % 256] : List Int)[j] := by
  intro j hj
  have hj4 : j < 4 := hj
  rw [bt_left _ _ _ (by omega), bt_right]
  exact bt_nums _ j hj (by intro y hy; simp at hy; omega)
 have e0 := at_ 0 (by show 0 < 4; omega)
 have e1 := at_ 1 (by show 1 < 4; omega)
 have e2 := at_ 2 (by show 2 < 4; omega)
 have e3 := at_ 3 (by show 3 < 4; omega)
 rw [fourV_eq]
 rw [show (p.size : Int) + 1 = ((p.size + 1 : Nat) : Int) by omega, show (p.size : Int) + 2 = ((p.size + 2 : Nat) : Int) by omega, show (p.size : Int) + 3 = ((p.size + 3 : Nat) : Int) by omega, e1, e2, e3]
 rw [Nat.add_zero] at e0
 rw [e0]
 simp
 omega
theorem four_at' (t p q : ByteArray) (i : Nat) (x : Int) (h0 : 0 ≤ x) (h1 : x ≤ 4294967295) (ht : t = (p ++ four4 x) ++ q) (hi : p.size = i) : fourV t (i : Int) = x := by
 subst ht
 subst hi
 exact four_at p q x h0 h1
theorem read_back (a n : Int) (u v w : S103) (ha : 0 ≤ a ∧ a ≤ 4294967295) (hn : 0 ≤ n ∧ n ≤ 4294967295) (hu : wideB u = true) (hv : wideB v = true) (hw : wideB w = true) :
 fourV (ctAll a n [u, v, w]) 0 = a ∧ fourV (ctAll a n [u, v, w]) 4 = n ∧ argsOf (ctAll a n [u, v, w]) = [u, v, w] := by
 have hf : ∀ z : S103, wideB z = true → (0 ≤ z.f0 ∧ z.f0 ≤ 4294967295) ∧ (0 ≤ z.f1 ∧ z.f1 ≤ 4294967295) := by
  intro z hz
  unfold wideB at hz
  rw [Bool.and_eq_true] at hz
  exact ⟨half_of hz.1, half_of hz.2⟩
 have fu := hf u hu
 have fv := hf v hv
 have fw := hf w hw
 have e : ctAll a n [u, v, w] = (((((((four4 a ++ four4 n) ++ four4 u.f0) ++ four4 u.f1) ++ four4 v.f0) ++ four4 v.f1) ++ four4 w.f0) ++ four4 w.f1) := rfl
 have z4 := four4_size
 have r : ∀ (i : Nat) (p q : ByteArray) (x : Int), 0 ≤ x → x ≤ 4294967295 → (((((((four4 a ++ four4 n) ++ four4 u.f0) ++ four4 u.f1) ++ four4 v.f0) ++ four4 v.f1) ++ four4 w.f0) ++ four4 w.f1) = (p ++ four4 x) ++ q → p.size = i → fourV (ctAll a n [u, v, w]) (i : Int) = x := by
  intro i p q x h0 h1 hh hi
  exact four_at' _ p q i x h0 h1 (e.trans hh) hi
 have x0 := r 0 ByteArray.empty (((((((four4 n) ++ four4 u.f0) ++ four4 u.f1) ++ four4 v.f0) ++ four4 v.f1) ++ four4 w.f0) ++ four4 w.f1) a ha.1 ha.2 (by rw [ByteArray.empty_append]; simp only [ByteArray.append_assoc]) rfl
 have x1 := r 4 (four4 a) ((((((four4 u.f0) ++ four4 u.f1) ++ four4 v.f0) ++ four4 v.f1) ++ four4 w.f0) ++ four4 w.f1) n hn.1 hn.2 (by simp only [ByteArray.append_assoc]) (z4 _)
 have x2 := r 8 (four4 a ++ four4 n) (((((four4 u.f1) ++ four4 v.f0) ++ four4 v.f1) ++ four4 w.f0) ++ four4 w.f1) u.f0 fu.1.1 fu.1.2 (by simp only [ByteArray.append_assoc]) (by rw [sizeApp, z4, z4])
 have x3 := r 12 ((four4 a ++ four4 n) ++ four4 u.f0) ((((four4 v.f0) ++ four4 v.f1) ++ four4 w.f0) ++ four4 w.f1) u.f1 fu.2.1 fu.2.2 (by simp only [ByteArray.append_assoc]) (by simp only [sizeApp, z4])
 have x4 := r 16 (((four4 a ++ four4 n) ++ four4 u.f0) ++ four4 u.f1) (((four4 v.f1) ++ four4 w.f0) ++ four4 w.f1) v.f0 fv.1.1 fv.1.2 (by simp only [ByteArray.append_assoc]) (by simp only [sizeApp, z4])
 have x5 := r 20 ((((four4 a ++ four4 n) ++ four4 u.f0) ++ four4 u.f1) ++ four4 v.f0) ((four4 w.f0) ++ four4 w.f1) v.f1 fv.2.1 fv.2.2 (by simp only [ByteArray.append_assoc]) (by simp only [sizeApp, z4])
 have x6 := r 24 (((((four4 a ++ four4 n) ++ four4 u.f0) ++ four4 u.f1) ++ four4 v.f0) ++ four4 v.f1) (four4 w.f1) w.f0 fw.1.1 fw.1.2 rfl (by simp only [sizeApp, z4])
 have x7 := r 28 ((((((four4 a ++ four4 n) ++ four4 u.f0) ++ four4 u.f1) ++ four4 v.f0) ++ four4 v.f1) ++ four4 w.f0) ByteArray.empty w.f1 fw.2.1 fw.2.2 (by rw [ByteArray.append_empty]) (by simp only [sizeApp, z4])
 refine ⟨x0, x1, ?_⟩
 have y2 : fourV (ctAll a n [u, v, w]) 8 = u.f0 := x2
 have y3 : fourV (ctAll a n [u, v, w]) 12 = u.f1 := x3
 have y4 : fourV (ctAll a n [u, v, w]) 16 = v.f0 := x4
 have y5 : fourV (ctAll a n [u, v, w]) 20 = v.f1 := x5
 have y6 : fourV (ctAll a n [u, v, w]) 24 = w.f0 := x6
 have y7 : fourV (ctAll a n [u, v, w]) 28 = w.f1 := x7
 unfold argsOf
 rw [y2, y3, y4, y5, y6, y7]
theorem srch_none (x : ByteArray) : ∀ l i, (∀ y ∈ l, y ≠ x) → srch x l i = -1 := by
 intro l
 induction l with
 | nil => intro i _; rfl
 | cons y l ih =>
  intro i h
  unfold srch
  rw [if_neg (fun z => h y (List.mem_cons_self ..) (toList_inj z))]
  exact ih (i + 1) (fun z hz => h z (List.mem_cons_of_mem _ hz))
def srchB (x : ByteArray) : List ByteArray → Int → Int
 | [], _ => -1
 | y :: l, i => if y = x then i else srchB x l (i + 1)
theorem srch_B (x : ByteArray) : ∀ l i, srch x l i = srchB x l i := by
 intro l
 induction l with
 | nil => intro i; rfl
 | cons y l ih =>
  intro i
  unfold srch srchB
  by_cases h : y = x
  ·rw [if_pos h, if_pos (by rw [h])]
  ·rw [if_neg h, if_neg (fun z => h (toList_inj z)), ih]
theorem headNum_name (n : Int) (h0 : 0 ≤ n) (h1 : n ≤ 4294967295) : headNum (nameOf n) = some n := by
 unfold headNum nameOf
 by_cases h : n < 12
 ·rw [if_pos h, srch_B]
  have : n = 0 ∨ n = 1 ∨ n = 2 ∨ n = 3 ∨ n = 4 ∨ n = 5 ∨ n = 6 ∨ n = 7 ∨ n = 8 ∨ n = 9 ∨ n = 10 ∨ n = 11 := by omega
  rcases this with rfl | rfl | rfl | rfl | rfl | rfl | rfl | rfl | rfl | rfl | rfl | rfl <;> rfl
 ·rw [if_neg h]
  have hno : srch (num0 n) namesL 0 = -1 := by
   refine srch_none _ _ _ (fun y hy e => ?_)
   have hp := dec_pos n.toNat
   have hb := bt_num0 n 0 hp
   rw [← e] at hb
   have hall : ∀ z ∈ namesL, 97 ≤ bt z ((0 : Nat) : Int) := by decide
   have := hall y hy
   omega
  rw [hno, if_pos (by omega)]
  exact numV_num0 n h0 h1
theorem word_name (n : Int) (h0 : 0 ≤ n) : wordS (nameOf n) := by
 unfold nameOf
 by_cases h : n < 12
 ·rw [if_pos h]
  have : n = 0 ∨ n = 1 ∨ n = 2 ∨ n = 3 ∨ n = 4 ∨ n = 5 ∨ n = 6 ∨ n = 7 ∨ n = 8 ∨ n = 9 ∨ n = 10 ∨ n = 11 := by omega
  rcases this with rfl | rfl | rfl | rfl | rfl | rfl | rfl | rfl | rfl | rfl | rfl | rfl <;> exact ⟨by decide, by decide⟩
 ·rw [if_neg h]
  exact ⟨dec_pos _, fun j hj => by have := bt_num0 n j hj; omega⟩
theorem word_num (x : Int) : wordS (num0 x) := ⟨dec_pos _, fun j hj => by have := bt_num0 x j hj; omega⟩
theorem word_app {a b : ByteArray} (ha : wordS a) (hb : wordS b) : wordS (a ++ b) := by
 refine ⟨by rw [sizeApp]; have := ha.1; omega, fun j hj => ?_⟩
 rw [sizeApp] at hj
 by_cases h : j < a.size
 ·rw [bt_left _ _ _ h]; exact ha.2 j h
 ·obtain ⟨q, rfl⟩ : ∃ q, j = a.size + q := ⟨j - a.size, by omega⟩
  rw [bt_right]
  exact hb.2 q (by omega)
theorem word_wide (w : S103) : wordS (wideT w) := by
 unfold wideT
 split
 ·exact word_app (word_app (word_num _) ⟨by decide, by decide⟩) (word_num _)
 ·exact word_num _
theorem sc_wide (s : ByteArray) (w : S103) : scStep s w = (s ++ spS) ++ wideT w := by
 unfold scStep wideT
 by_cases h : w.f0 > 0
 ·rw [if_pos h, if_pos h]
  show (((s ++ spS) ++ num0 w.f0) ++ colonS) ++ num0 w.f1 = _
  simp only [ByteArray.append_assoc]
 ·rw [if_neg h, if_neg h]
  rfl
theorem line_glue (n : Int) (u v w : S103) : scAll n [u, v, w] = glue (nameOf n) [wideT u, wideT v, wideT w] := by
 show scStep (scStep (scStep (nameOf n) u) v) w = _
 rw [sc_wide, sc_wide, sc_wide]
 rfl
theorem rcl_of (a n : Int) (u v w : S103) (s : ByteArray) (ha : halfB a = true) (hn : 0 ≤ n ∧ n ≤ 4294967295) (hu : wideB u = true) (hv : wideB v = true) (hw : wideB w = true) (hs : partsB s = ([nameOf n, wideT u, wideT v, wideT w], true)) : rcl a s = (a, n, [u, v, w], true) := by
 unfold rcl
 rw [hs]
 rw [if_pos ⟨rfl, by show 1 ≤ 4; omega, by show 4 ≤ 4; omega⟩]
 show (match headNum (nameOf n) with | none => noCall | some m => goW a m (halfB a) [wideT u, wideT v, wideT w] []) = _
 rw [headNum_name n hn.1 hn.2, ha]
 show goW a n true [wideT u, wideT v, wideT w] [] = _
 unfold goW
 rw [wideR_text u hu]
 show goW a n true [wideT v, wideT w] [u] = _
 unfold goW
 rw [wideR_text v hv]
 show goW a n true [wideT w] [u, v] = _
 unfold goW
 rw [wideR_text w hw]
 rfl
theorem words3 (u v w : S103) : ∀ Y ∈ [wideT u, wideT v, wideT w], wordS Y := by
 intro Y hY
 simp only [List.mem_cons, List.not_mem_nil, or_false] at hY
 rcases hY with rfl | rfl | rfl <;> exact word_wide _
theorem FnCallTexts : laws_FnCallTexts.Pure := by
 intro code _ _ _
 refine Ev.rounds ?_
 simp only [laws_FnCallTexts.f, laws_big.f, Option.bind_some]
 by_cases hc : (code.length : Int) > 1048576
 ·exact evPos (by simpa using hc) (Ev.now _)
 refine evNeg (by simpa using hc) ?_
 have hb : code.length ≤ 16777216 := by omega
 obtain ⟨h, e⟩ := drawNew code hb
 obtain ⟨a, n, l, i1, h1', e1, ha, hn, hl, hw, _, _⟩ := drawCall code hb 0 h (by omega) (by omega)
 have ed : Ev (fun k => spec_DrawCall.f k code) (a, n, l) := by
  simp only [spec_DrawCall.f]
  exact Ev.bind e (Ev.bind e1 (Ev.now _))
 obtain ⟨u, v, w, rfl⟩ : ∃ u v w, l = [u, v, w] := by
  match l, hl with
  | [u, v, w], _ => exact ⟨u, v, w, rfl⟩
 have hok : callB a n [u, v, w] = true := by unfold callB; rw [hw, ha, hn]; rfl
 have ha' := half_of ha
 have hn' := half_of hn
 have hu : wideB u = true := List.all_eq_true.1 hw u (by simp)
 have hv : wideB v = true := List.all_eq_true.1 hw v (by simp)
 have hww : wideB w = true := List.all_eq_true.1 hw w (by simp)
 have hall : ∀ z ∈ [u, v, w], wideB z = true := List.all_eq_true.1 hw
 have hct : ctB a n [u, v, w] = (ctAll a n [u, v, w], true) := if_pos hok
 have hcl : callLine a n [u, v, w] = scAll n [u, v, w] := if_pos hok
 have hsz : (ctAll a n [u, v, w]).size = 32 := by rw [ct_size]; rfl
 have hls : (scAll n [u, v, w]).size ≤ 139 := scAll_size n hn'.1 hn'.2 [u, v, w] hall
 obtain ⟨r0, r1, r2⟩ := read_back a n u v w ha' hn' hu hv hww
 have hrd := ev_impl_ReadCall (ctAll a n [u, v, w]) hsz
 rw [r0, r1, r2] at hrd
 have p1 : partsB (scAll n [u, v, w]) = ([nameOf n, wideT u, wideT v, wideT w], true) := by
  unfold partsB
  rw [if_neg (by omega)]
  have := parts_glue ByteArray.empty (Or.inl rfl) [wideT u, wideT v, wideT w] ByteArray.empty (nameOf n) [] ((scAll n [u, v, w]).size + 1) (word_name n hn'.1) (words3 u v w) (by rw [ByteArray.empty_append, ByteArray.append_empty, ← line_glue]; show 0 + _ = _; omega) (by show 0 + 3 + 1 ≤ 10; omega)
  rw [ByteArray.empty_append, ByteArray.append_empty, ← line_glue] at this
  exact this
 have l1 := ev_impl_ReadCallLine a (scAll n [u, v, w])
 rw [rcl_of a n u v w _ ha hn' hu hv hww p1] at l1
 have hs2 : (((⟨#[32, 32]⟩ : ByteArray) ++ scAll n [u, v, w]) ++ (⟨#[32]⟩ : ByteArray)).size = (scAll n [u, v, w]).size + 3 := by rw [sizeApp, sizeApp]; show 2 + _ + 1 = _; omega
 have p2 : partsB (((⟨#[32, 32]⟩ : ByteArray) ++ scAll n [u, v, w]) ++ (⟨#[32]⟩ : ByteArray)) = ([nameOf n, wideT u, wideT v, wideT w], true) := by
  unfold partsB
  rw [if_neg (by omega), hs2]
  have b0 : bt (((⟨#[32, 32]⟩ : ByteArray) ++ scAll n [u, v, w]) ++ (⟨#[32]⟩ : ByteArray)) ((0 : Nat) : Int) = 32 := by
   rw [bt_left _ _ _ (by rw [sizeApp]; show 0 < 2 + _; omega), bt_left _ _ _ (by show 0 < 2; omega)]
   rfl
  have b1 : bt (((⟨#[32, 32]⟩ : ByteArray) ++ scAll n [u, v, w]) ++ (⟨#[32]⟩ : ByteArray)) ((1 : Nat) : Int) = 32 := by
   rw [bt_left _ _ _ (by rw [sizeApp]; show 1 < 2 + _; omega), bt_left _ _ _ (by show 1 < 2; omega)]
   rfl
  rw [show (scAll n [u, v, w]).size + 3 + 1 = ((scAll n [u, v, w]).size + 2 + 1) + 1 by omega, parts_end _ _ _ _ _ (Or.inr ⟨by omega, b0⟩), if_neg (by omega), parts_end _ _ _ _ _ (Or.inr ⟨by omega, b1⟩), if_neg (by omega)]
  have := parts_glue spS (Or.inr rfl) [wideT u, wideT v, wideT w] (⟨#[32, 32]⟩ : ByteArray) (nameOf n) [] ((scAll n [u, v, w]).size + 2) (word_name n hn'.1) (words3 u v w) (by rw [glue_app, ← line_glue]; show 2 + _ = (((⟨#[32, 32]⟩ : ByteArray) ++ scAll n [u, v, w]) ++ (⟨#[32]⟩ : ByteArray)).size + 1; omega) (by show 0 + 3 + 1 ≤ 10; omega)
  rw [glue_app, ← line_glue] at this
  exact this
 have l2 := ev_impl_ReadCallLine a (((⟨#[32, 32]⟩ : ByteArray) ++ scAll n [u, v, w]) ++ (⟨#[32]⟩ : ByteArray))
 rw [rcl_of a n u v w _ ha hn' hu hv hww p2] at l2
 have hcall := ev_spec_CallOk a n [u, v, w] (by show 3 ≤ 1048576; omega)
 rw [hok] at hcall
 have htx := ev_impl_CallText a n [u, v, w] (by show 3 ≤ 1048576; omega)
 rw [hct] at htx
 have hsh := ev_impl_ShowCall a n [u, v, w] (by show 3 ≤ 1048576; omega)
 rw [hcl] at hsh
 have hsame := ev_sameCall a n [u, v, w] (by show 3 ≤ 1048576; omega)
 have hpos : 0 < (scAll n [u, v, w]).size := by
  rw [line_glue]
  have hx := (word_name n hn'.1).1
  have : glue (nameOf n) [wideT u, wideT v, wideT w] = nameOf n ++ glue ByteArray.empty [wideT u, wideT v, wideT w] := by
   rw [← glue_app, ByteArray.append_empty]
  rw [this, sizeApp]
  omega
 refine Ev.bind ed (Ev.bind hcall (evPos rfl (Ev.bind htx (Ev.bind hrd (Ev.bind hsh (Ev.bind l1 (evPos (by omega) (evPos (by rw [sizeApp]; show 2 + _ + 1 ≤ _; omega) (Ev.bind l2 ?_)))))))))
 refine evPos rfl (evPos rfl (evPos rfl (evPos rfl (Ev.bind hsame (evPos rfl (Ev.bind hsame (evPos rfl (Ev.bind hsame (evPos rfl (evPos (by show ((ctAll a n [u, v, w]).size : Int) = 32; rw [hsz]; rfl) (evEq (Ev.now _) (decide_eq_true (by omega)))))))))))))

end Go.Proofs.Ytmjlhikflhbdaaa.Pure

namespace Go.Proofs.Ytmjlhikflhbdaaa.fnCallTexts
open Go.ChangeShapes Go.WideShapes Go.ChangeAt Go.RowKit
open Go.ChangeMaps (open_string shut_string)
set_option linter.unusedVariables false
theorem own : ownKnob Try.prog.godebug = none := by kernel_rfl
theorem laidOut : laidOutB Try.prog = true := by kernel_rfl
def IsRow (k : IntKind) (w : World) (a : Option Addr) (len cap : Nat) (zs : List Int) : Prop :=
 (a = none ∧ len = 0 ∧ cap = 0 ∧ zs = []) ∨
 ∃ x, a = some x ∧ len ≤ cap ∧ cap ≤ maxLen ∧ zs.length = cap ∧ (∀ i, i < zs.length → w.cell? (x.add i) = some (.int k (zs.getD i 0))) ∧ ∀ n ∈ zs, (Lit.int k n).wf = true
set_option maxRecDepth 100000 in
theorem lifted (os : Os) (started : os.Started) (H : Type) (enc : TypeId × Value → H) :
 ReturnsInHanded {} Try.checked os 4 .any (Rows.fnCallTextsSpec.pre6 enc Try.prog Try.f4 Rows.fnCallTextsRow.domain false) (Rows.fnCallTextsSpec.post enc Try.prog Try.f4 false true false false) := by
 refine returnsInHanded_of_change_sized (C := Try.checked) own started (by kernel_rfl) Try.func4
  (ChangeSpec.witness6 (enc := enc) (C := Try.checked) false ⟨#[], #[.slice none 0 0], []⟩ 8 (by kernel_rfl) (by kernel_rfl) (by kernel_rfl) (by kernel_rfl)) ?_
 intro W base args ds gs before hval0 hW hcnd hsz0 _
 have hsz : (DataW.weightsEach Try.prog (Try.f4.params.toList ++ Rows.fnCallTextsSpec.plain.varTypes Try.prog) (ds ++ gs)).all (· ≤ reachBytes) = true := hsz0
 have hval : ∀ (j : Nat) t v, Try.f4.params[j]? = some t → args[j]? = some v → Value.okWide Try.prog W .any base t v := hval0
 have hW' := hW
 obtain ⟨p, q, hA0, hV, rfl, hfz, hnd⟩ := hW
 have hA : DataW.TrodAll enc Try.prog W 0 (fun _ => true) true Try.f4.params.toList args.toList ds p := hA0
 rw [Try.params4] at hA hval hsz
 obtain ⟨v0, vs0, d0, ds0, p0, q0, hargs, rfl, rfl, h0, r0⟩ := trodAll_cons hA
 obtain ⟨rfl, rfl, rfl⟩ := trodAll_nil r0
 obtain rfl : args = #[v0] := by cases args; simp_all
 obtain ⟨rfl, rfl⟩ := trodVars_none hV
 obtain ⟨a0, len0, cap0, rfl⟩ := okWide_slice Try.underlying30 (hval 0 30 v0 rfl rfl)
 have k0 := h0
 have lt0 : ∀ x ∈ p0, x.block < W.heap.size := by obtain ⟨m, hm⟩ := k0; exact DataW.trod_lt m _ _ _ hm
 obtain ⟨z0, w0⟩ : ∃ zs, IsRow .u8 W a0 len0 cap0 zs := by
  obtain ⟨fuel, hf⟩ := h0
  rcases open_ints Try.underlying30 Try.underlying5 (by kernel_rfl) hf with ⟨hcs, _⟩ | ⟨x, l, c, zs, hcs, _, hl, hm, hz, _, hcell, hwz⟩
  ·simp [Value.cells] at hcs
   obtain ⟨rfl, rfl, rfl⟩ := hcs
   exact ⟨[], .inl ⟨rfl, rfl, rfl, rfl⟩⟩
  ·simp [Value.cells] at hcs
   obtain ⟨rfl, rfl, rfl⟩ := hcs
   exact ⟨zs, .inr ⟨_, rfl, hl, hm, by simpa using hz, hcell, hwz⟩⟩
 have y0 : len0 * 1 ≤ 140737488351232 := Go.Proofs.YtmjlhikflhbdaaaW.PrintWords.sized_ints hsz (j := 0) (t := 30) rfl rfl Try.underlying30 Try.underlying5 (by kernel_rfl) (by kernel_rfl) h0
 clear hA0 hval0 hsz0 hsz
 refine (PA.laws_FnCallTexts.walk Pure.FnCallTexts a0 len0 cap0 z0 W w0 y0).mono fun e W' ⟨he, bel⟩ => ?_
 subst he
 exact ⟨_, rfl, _, _, _, [], _, [], hW', trodAll_mk1 (shut_bool Try.underlying4 _), (trodAll_cons_mk (Below.trod laidOut (by kernel_rfl) (of_decide_eq_true (by kernel_rfl)) k0 bel lt0) trodAll_mk0), rfl, bel.frame _, fun h => by cases h⟩
theorem over : Rows.fnCallTextsRow.holds Try.pinned (OpenSpec.ofChange Rows.fnCallTextsSpec) :=
 OpenClaim.holds_of_wide 4 Try.f4 rfl rfl rfl rfl rfl rfl rfl ⟨rfl, rfl, rfl, rfl, rfl⟩ rfl rfl rfl rfl rfl (by kernel_rfl) Try.func4 (by kernel_rfl)
  (of_decide_eq_true (by kernel_rfl)) (by unfold Func.isWrapper; first | (rw [if_pos (by decide +kernel)]; kernel_rfl) | (rw [if_neg (by decide +kernel)]; exact ⟨rfl, rfl⟩))
  (fun os started H enc _ => lifted os started H enc)
theorem proved : Rows.FnCallTextsSaid := over
#print axioms proved
end Go.Proofs.Ytmjlhikflhbdaaa.fnCallTexts
namespace Go.Proofs.Ytmjlhikflhbdaaa
/-- The row, under a short name, for the claim. -/
theorem fnCallTexts_holds : Rows.FnCallTextsSaid := fnCallTexts.proved
end Go.Proofs.Ytmjlhikflhbdaaa

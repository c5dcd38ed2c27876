/- Contracts of functions of the program and of the reference, and plain lemmas on what they compute. No condition. -/
import Derived.Test.YtmjlhikflhbdaaaGabbbex0
import Derived.Test.YtmjlhikflhbdaaaGd53c9x0
import Derived.Test.YtmjlhikflhbdaaaShortV
namespace Go.Proofs.Ytmjlhikflhbdaaa.PA
open Go.RowKit Go.Proofs.Ytmjlhikflhbdaaa.Short Go.Proofs.YtmjlhikflhbdaaaW.PrintWords Go.Proofs.YtmjlhikflhbdaaaW.PrintLast Go.Proofs.YtmjlhikflhbdaaaW.PrintMore
attribute [local go_sem] max2_int min2_int max_two min_two max_three min_three max_four min_four   -- for this text's walks alone
set_option linter.unusedVariables false
set_option linter.unusedSimpArgs false

/-! ### spec_MostTold: function 39 -/
def spec_MostTold.l0 : Nat → List (S65) → Int → Int → Option (Int)
 | 0, _, _, _ => none
 | k + 1, x3, x4, x5 => if x5 < (x3.length : Int) then (if x4 < 0 then (spec_MostTold.l0 k x3 x5 (wrap64 (x5 + 1))) else (if 0 ≤ x5 then (if 0 ≤ x4 then (if x4 < (x3.length : Int) then (if ((rd_T65 x3 x5).f1) > ((rd_T65 x3 x4).f1) then (spec_MostTold.l0 k x3 x5 (wrap64 (x5 + 1))) else (spec_MostTold.l0 k x3 x4 (wrap64 (x5 + 1)))) else (none)) else (none)) else (none))) else (if x4 < 0 then (some (-1)) else (if 0 ≤ x4 then (if x4 < (x3.length : Int) then (some ((rd_T65 x3 x4).f0)) else (none)) else (none)))
def spec_MostTold.f (k : Nat) (l0 : List (S131)) : Option (Int) := (spec_TalliesOf.f k l0).bind fun t939 => (spec_MostTold.l0 k t939 (-1) 0)
theorem spec_MostTold.mono_l : ∀ k, (∀ y0 y1 y2, LeO (spec_MostTold.l0 k y0 y1 y2) (spec_MostTold.l0 (k + 1) y0 y1 y2))
 | 0 => fun _ _ _ r h => by simp [spec_MostTold.l0] at h
 | k + 1 => by
  have ih0 := spec_MostTold.mono_l k
  ·intro y0 y1 y2
   unfold spec_MostTold.l0
   repeat' first
   | (with_reducible exact ih0 _ _ _)
   | (with_reducible exact spec_TalliesOf.mono _ _)
   | (with_reducible exact LeO.refl _)
   | (with_reducible exact LeO.none _)
   | (with_reducible refine LeO.ite ?_ ?_)
   | (with_reducible refine LeO.bind ?_ (fun _ => ?_))
   | exact ih0 _ _ _
   | exact spec_TalliesOf.mono _ _
   | exact LeO.none _
   | refine LeO.ite ?_ ?_
   | refine LeO.bind ?_ (fun _ => ?_)
theorem spec_MostTold.mono : ∀ a0 k, LeO (spec_MostTold.f k a0) (spec_MostTold.f (k + 1) a0) := by
 intro a0 k
 have ih0 := spec_MostTold.mono_l k
 unfold spec_MostTold.f
 repeat' first
  | (with_reducible exact ih0 _ _ _)
  | (with_reducible exact spec_TalliesOf.mono _ _)
  | (with_reducible exact LeO.refl _)
  | (with_reducible exact LeO.none _)
  | (with_reducible refine LeO.ite ?_ ?_)
  | (with_reducible refine LeO.bind ?_ (fun _ => ?_))
  | exact ih0 _ _ _
  | exact spec_TalliesOf.mono _ _
  | exact LeO.none _
  | refine LeO.ite ?_ ?_
  | refine LeO.bind ?_ (fun _ => ?_)
set_option maxHeartbeats 8000000 in
set_option maxRecDepth 100000 in
theorem spec_MostTold.calls (k : Nat) (A0 : Option Addr) (c0 : Nat) (l0 : List (S131)) (r : Int) (w : World) (hr0 : Kd.C k131 w A0 l0.length l0) (hc0 : l0.length ≤ c0) (h : spec_MostTold.f k l0 = some r) :
 Calls Try.prog 39 #[.slice A0 l0.length c0] w fun e w' => e = .returned (.int .i64 r) ∧ Below w.heap.size w w' := by
 have HR0 := Aside0.mk hr0
 have HC0 := Aside0.mk hc0
 clear hr0 hc0
 have HB := Aside0.mk (Below.refl w.heap.size w)
 have H : ((spec_TalliesOf.f k l0).bind fun t939 => (spec_MostTold.l0 k t939 (-1) 0)) = some r := h
 clear h
 replace H := Option.bind_eq_some_iff.mp H
 obtain ⟨t939, A20, H⟩ := H
 try dsimp only at H
 have A2 := Aside0.mk A20
 clear A20
 have H' := Aside0.mk H
 clear H
 go_enter Try.func39, Try.ntmps39
 go_wp2_with (first | (go_at_call 49; (with_reducible refine (spec_TalliesOf.calls k _ _ l0 t939 _ ?side1 ?side2 A2.out).mono ?_); (case side1 => repeat (first | exact HR0.out | (with_reducible refine Kd.C_alloc ?_ _) | (with_reducible refine Kd.C_drewN ?_ _) | (with_reducible refine Kd.C_drew ?_))); (case side2 => exact HC0.out); rintro e w3 ⟨v940, rfl, ho0, hb⟩; have n0_ := Aside0.mk (Kd.R_lower ho0 (below_size bl_)); have n1_ := Aside0.mk (below_step bl_ hb); clear HB; have HO941 := n0_; have HB := n1_; clear n0_ n1_; (try clear hb); (try clear hb2); (try clear hk); (try clear hi); (try clear ho0)))
 repeat (go_quiet (first | (go_at_call 49; (with_reducible refine (spec_TalliesOf.calls k _ _ l0 t939 _ ?side1 ?side2 A2.out).mono ?_); (case side1 => repeat (first | exact HR0.out | (with_reducible refine Kd.C_alloc ?_ _) | (with_reducible refine Kd.C_drewN ?_ _) | (with_reducible refine Kd.C_drew ?_))); (case side2 => exact HC0.out); rintro e w3 ⟨v940, rfl, ho0, hb⟩; have n0_ := Aside0.mk (Kd.R_lower ho0 (below_size bl_)); have n1_ := Aside0.mk (below_step bl_ hb); clear HB; have HO941 := n0_; have HB := n1_; clear n0_ n1_; (try clear hb); (try clear hb2); (try clear hk); (try clear hi); (try clear ho0))); try go_wp2_with (first | (go_at_call 49; (with_reducible refine (spec_TalliesOf.calls k _ _ l0 t939 _ ?side1 ?side2 A2.out).mono ?_); (case side1 => repeat (first | exact HR0.out | (with_reducible refine Kd.C_alloc ?_ _) | (with_reducible refine Kd.C_drewN ?_ _) | (with_reducible refine Kd.C_drew ?_))); (case side2 => exact HC0.out); rintro e w3 ⟨v940, rfl, ho0, hb⟩; have n0_ := Aside0.mk (Kd.R_lower ho0 (below_size bl_)); have n1_ := Aside0.mk (below_step bl_ hb); clear HB; have HO941 := n0_; have HB := n1_; clear n0_ n1_; (try clear hb); (try clear hb2); (try clear hk); (try clear hi); (try clear ho0))))
 go_loopg [4, 5] k (fun kq v4 v5 w' => ∃ (x4_1 : Int) (x5_1 : Int), v4 = .int .i64 x4_1 ∧ v5 = .int .i64 x5_1 ∧ Aside0 (spec_MostTold.l0 kq t939 x4_1 x5_1 = some r) ∧ Aside0 (kq ≤ k) ∧ Aside0 (Kd.R k65 65 w' w.heap.size (fun _ => True) v940 t939) ∧ Aside0 (Below w.heap.size w w'))
 case atStart => exact ⟨((-1)), (0), (by first | rfl | (simp; done) | (simp [*]; done)), (by first | rfl | (simp; done) | (simp [*]; done)), H', ⟨Nat.le_refl _⟩, ⟨ra_ HO941.out⟩, ⟨bl_⟩⟩
 case round =>
  clear H'
  try clear p2
  try clear c3
  obtain ⟨x4_1, x5_1, rfl, rfl, HA, HK1, HO_3, HB⟩ := hrel
  cases gk with
  | zero => exact absurd HA.out (by simp [spec_MostTold.l0])
  | succ k1 =>
   have H := HA.out
   clear HA
   simp only [spec_MostTold.l0] at H
   by_cases c4 : x5_1 < (t939.length : Int)
   ·rw [if_pos c4] at H
    have c4b0 : decide (x5_1 < (t939.length : Int)) = true := decide_eq_true c4
    clear c4
    by_cases c5 : x4_1 < 0
    ·rw [if_pos c5] at H
     have c5b0 : decide (x4_1 < 0) = true := decide_eq_true c5
     clear c5
     have H' := Aside0.mk H
     clear H
     obtain ⟨Ao6, co6, eo6⟩ := Kd.R_slice HO_3.out
     subst eo6
     go_wp2
     repeat (go_quiet (fail); try go_wp2)
     go_roundg k1
     case measure => have := HK1.out; omega
     case rel => exact ⟨(x5_1), (wrap64 (x5_1 + 1)), (by first | rfl | (simp; done) | (simp [*]; done)), (by first | rfl | (simp; done) | (simp [*]; done)), H', ⟨by have := HK1.out; omega⟩, ⟨ra_ HO_3.out⟩, ⟨bl_⟩⟩
    ·rw [if_neg c5] at H
     have c5b0 : decide (x4_1 < 0) = false := decide_eq_false c5
     clear c5
     by_cases c7 : 0 ≤ x5_1
     ·rw [if_pos c7] at H
      have c7b0 : decide (0 ≤ x5_1) = true := decide_eq_true c7
      clear c7
      by_cases c8 : 0 ≤ x4_1
      ·rw [if_pos c8] at H
       have c8b0 : decide (0 ≤ x4_1) = true := decide_eq_true c8
       clear c8
       by_cases c9 : x4_1 < (t939.length : Int)
       ·rw [if_pos c9] at H
        have c9b0 : decide (x4_1 < (t939.length : Int)) = true := decide_eq_true c9
        clear c9
        by_cases c10 : ((rd_T65 t939 x5_1).f1) > ((rd_T65 t939 x4_1).f1)
        ·rw [if_pos c10] at H
         have c10b0 : decide (((rd_T65 t939 x4_1).f1) < ((rd_T65 t939 x5_1).f1)) = true := decide_eq_true c10
         clear c10
         have H' := Aside0.mk H
         clear H
         obtain ⟨Ao11, co11, eo11⟩ := Kd.R_slice HO_3.out
         subst eo11
         have p942 : 0 ≤ (x5_1 : Int) := of_decide_eq_true as_
         have q942 : x5_1 < (t939.length : Int) := of_decide_eq_true as_
         obtain ⟨ad942, e942, hx942_0, hx942_1⟩ := at_T65 (Kd.R_reads' HO_3.out).2.2 x5_1 p942 q942
         cases e942
         replace p942 := eq_true p942
         replace q942 := eq_true q942
         have p943 : 0 ≤ (x4_1 : Int) := of_decide_eq_true as_
         have q943 : x4_1 < (t939.length : Int) := of_decide_eq_true as_
         obtain ⟨ad943, e943, hx943_0, hx943_1⟩ := at_T65 (Kd.R_reads' HO_3.out).2.2 x4_1 p943 q943
         obtain rfl : ad942 = ad943 := (by injection e943)
         replace p943 := eq_true p943
         replace q943 := eq_true q943
         go_wp2
         repeat (go_quiet (fail); try go_wp2)
         go_roundg k1
         case measure => have := HK1.out; omega
         case rel => exact ⟨(x5_1), (wrap64 (x5_1 + 1)), (by first | rfl | (simp; done) | (simp [*]; done)), (by first | rfl | (simp; done) | (simp [*]; done)), H', ⟨by have := HK1.out; omega⟩, ⟨ra_ HO_3.out⟩, ⟨bl_⟩⟩
        ·rw [if_neg c10] at H
         have c10b0 : decide (((rd_T65 t939 x4_1).f1) < ((rd_T65 t939 x5_1).f1)) = false := decide_eq_false c10
         clear c10
         have H' := Aside0.mk H
         clear H
         obtain ⟨Ao12, co12, eo12⟩ := Kd.R_slice HO_3.out
         subst eo12
         have p942 : 0 ≤ (x5_1 : Int) := of_decide_eq_true as_
         have q942 : x5_1 < (t939.length : Int) := of_decide_eq_true as_
         obtain ⟨ad942, e942, hx942_0, hx942_1⟩ := at_T65 (Kd.R_reads' HO_3.out).2.2 x5_1 p942 q942
         cases e942
         replace p942 := eq_true p942
         replace q942 := eq_true q942
         have p943 : 0 ≤ (x4_1 : Int) := of_decide_eq_true as_
         have q943 : x4_1 < (t939.length : Int) := of_decide_eq_true as_
         obtain ⟨ad943, e943, hx943_0, hx943_1⟩ := at_T65 (Kd.R_reads' HO_3.out).2.2 x4_1 p943 q943
         obtain rfl : ad942 = ad943 := (by injection e943)
         replace p943 := eq_true p943
         replace q943 := eq_true q943
         go_wp2
         repeat (go_quiet (fail); try go_wp2)
         go_roundg k1
         case measure => have := HK1.out; omega
         case rel => exact ⟨(x4_1), (wrap64 (x5_1 + 1)), (by first | rfl | (simp; done) | (simp [*]; done)), (by first | rfl | (simp; done) | (simp [*]; done)), H', ⟨by have := HK1.out; omega⟩, ⟨ra_ HO_3.out⟩, ⟨bl_⟩⟩
       ·rw [if_neg c9] at H
        exact absurd H (by simp)
      ·rw [if_neg c8] at H
       exact absurd H (by simp)
     ·rw [if_neg c7] at H
      exact absurd H (by simp)
   ·rw [if_neg c4] at H
    have c4b0 : decide (x5_1 < (t939.length : Int)) = false := decide_eq_false c4
    clear c4
    by_cases c13 : x4_1 < 0
    ·rw [if_pos c13] at H
     have c13b0 : decide (x4_1 < 0) = true := decide_eq_true c13
     clear c13
     obtain rfl := Option.some.inj H
     obtain ⟨Ao14, co14, eo14⟩ := Kd.R_slice HO_3.out
     subst eo14
     go_wp2
     repeat (go_quiet (fail); try go_wp2)
     go_ret
     exact ⟨by first | rfl | (simp [errW_none, errW_some] <;> rfl) | (simp [*, errW_none, errW_some] <;> rfl) | exact False.elim (Bool.noConfusion ((decide_eq_true (of_eq_true (by assumption))).symm.trans (by assumption))), bl_⟩
    ·rw [if_neg c13] at H
     have c13b0 : decide (x4_1 < 0) = false := decide_eq_false c13
     clear c13
     by_cases c15 : 0 ≤ x4_1
     ·rw [if_pos c15] at H
      have c15b0 : decide (0 ≤ x4_1) = true := decide_eq_true c15
      clear c15
      by_cases c16 : x4_1 < (t939.length : Int)
      ·rw [if_pos c16] at H
       have c16b0 : decide (x4_1 < (t939.length : Int)) = true := decide_eq_true c16
       clear c16
       obtain rfl := Option.some.inj H
       obtain ⟨Ao17, co17, eo17⟩ := Kd.R_slice HO_3.out
       subst eo17
       have p944 : 0 ≤ (x4_1 : Int) := of_decide_eq_true as_
       have q944 : x4_1 < (t939.length : Int) := of_decide_eq_true as_
       obtain ⟨ad944, e944, hx944_0, hx944_1⟩ := at_T65 (Kd.R_reads' HO_3.out).2.2 x4_1 p944 q944
       cases e944
       replace p944 := eq_true p944
       replace q944 := eq_true q944
       go_wp2
       repeat (go_quiet (fail); try go_wp2)
       go_ret
       exact ⟨by first | rfl | (simp [errW_none, errW_some] <;> rfl) | (simp [*, errW_none, errW_some] <;> rfl) | exact False.elim (Bool.noConfusion ((decide_eq_true (of_eq_true (by assumption))).symm.trans (by assumption))), bl_⟩
      ·rw [if_neg c16] at H
       exact absurd H (by simp)
     ·rw [if_neg c15] at H
      exact absurd H (by simp)

end Go.Proofs.Ytmjlhikflhbdaaa.PA
